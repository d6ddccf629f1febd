/- chapter 12: what the operators do in a row. -/
import Derived.Test.YtiadenokcpnliaaStV
import Derived.WalkKit
import Derived.Lib.Hide
import Derived.Deep.QuietTactic
import Derived.BigQuiet
import Derived.Lib.QuietBelow
import Derived.Deep.RegionHeld3
import Derived.WalkLawsBesides
import Derived.WalkSpells
import Derived.Outline
import Derived.Deep.DeepFit
import Derived.Maps.AppendAt
import Derived.Deep.AppendLies
import Derived.Deep.CutRange
import Derived.OpenShut
namespace Go.Proofs.Ytiadenokcpnliaa.T3
set_option linter.unusedSimpArgs false
set_option linter.unusedVariables false
open Go.RowKit
attribute [local go_sem] Oper.semAt_some
set_option maxHeartbeats 4000000
set_option maxRecDepth 100000

theorem ps_ok (L M : List Ob) (h : L.length + M.length ≤ 100) : psR L M = (0, L ++ M) := by
  unfold psR psE psV
  rw [if_neg (by omega), if_neg (by omega)]
theorem ins_app (L T M : List Ob) (k : Nat) (hk : k = T.length) (h : L.length + M.length ≤ 100) : insR (L ++ T) k M = (0, L ++ M) := by
  subst hk
  have e : (L ++ T).take ((L ++ T).length - T.length) = L := by simp
  unfold insR insE insV
  rw [e]
  have := ps_ok L M h
  simp only [psR, Prod.mk.injEq] at this
  rw [this.1, this.2]
  simp
  intro; omega
theorem split1 {K : List Ob} (h : 1 ≤ K.length) : ∃ P a, K = P ++ [a] := by
  have hne : K ≠ [] := fun h0 => by rw [h0] at h; simp at h
  exact ⟨K.dropLast, K.getLast hne, (List.dropLast_concat_getLast hne).symm⟩
theorem split2 {K : List Ob} (h : 2 ≤ K.length) : ∃ P a b, K = P ++ [a, b] := by
  obtain ⟨P, b, rfl⟩ := split1 (K := K) (by omega)
  simp at h
  obtain ⟨Q, a, rfl⟩ := split1 (K := P) (by omega)
  exact ⟨Q, a, b, by simp⟩
theorem at_app (P T : List Ob) (i j : Nat) (h : i = P.length + j) : at_ (P ++ T) i = at_ T j := by
  subst h
  unfold at_
  rw [List.getD_eq_getElem?_getD, List.getElem?_append_right (by omega), Nat.add_sub_cancel_left, ← List.getD_eq_getElem?_getD]
theorem exch_is (P : List Ob) (a b : Ob) (h : P.length ≤ 98) : exchR (P ++ [a, b]) = (0, P ++ [b, a]) := by
  unfold exchR
  rw [if_neg (by simp), at_app P [a, b] _ 1 (by simp), at_app P [a, b] _ 0 (by simp)]
  exact ins_app P [a, b] [b, a] 2 rfl (by simp; omega)
theorem turn_exch (K : List Ob) (h : K.length ≤ 95) : (2 ≤ K.length → allR [⟨#[101, 120, 99, 104]⟩, ⟨#[101, 120, 99, 104]⟩] K = (true, K)) ∧ (K.length < 2 → (allR [⟨#[101, 120, 99, 104]⟩, ⟨#[101, 120, 99, 104]⟩] K).1 = false) := by
  constructor
  · intro h2
    obtain ⟨P, a, b, rfl⟩ := split2 h2
    simp at h
    unfold allR
    rw [do_exch, exch_is P a b (by omega), if_pos rfl]
    unfold allR
    rw [do_exch, exch_is P b a (by omega), if_pos rfl]
    rfl
  · intro h2
    unfold allR
    rw [do_exch]
    have : exchR K = (20, K) := by unfold exchR; rw [if_pos h2]
    rw [this, if_neg (by simp)]
theorem dup_is (P : List Ob) (a : Ob) (h : P.length ≤ 98) : dupR (P ++ [a]) = (0, P ++ [a] ++ [a]) := by
  unfold dupR
  rw [if_neg (by simp)]
  have : (P ++ [a]).drop ((P ++ [a]).length - 1) = [a] := by simp
  rw [this]
  exact ps_ok _ _ (by simp; omega)
theorem turn_dup (K : List Ob) (h : K.length ≤ 95) : (1 ≤ K.length → allR [⟨#[100, 117, 112]⟩, ⟨#[112, 111, 112]⟩] K = (true, K)) ∧ (K.length < 1 → (allR [⟨#[100, 117, 112]⟩, ⟨#[112, 111, 112]⟩] K).1 = false) := by
  constructor
  · intro h2
    obtain ⟨P, a, rfl⟩ := split1 h2
    simp at h
    unfold allR
    rw [do_dup, dup_is P a (by omega), if_pos rfl]
    unfold allR
    rw [do_pop]
    unfold popR
    rw [ins_app (P ++ [a]) [a] [] 1 rfl (by simp; omega), if_pos rfl]
    simp [allR]
  · intro h2
    unfold allR
    rw [do_dup]
    have : dupR K = (20, K) := by unfold dupR; rw [if_pos h2]
    rw [this, if_neg (by simp)]
theorem turn_mark (K : List Ob) (h : K.length ≤ 95) : allR [⟨#[109, 97, 114, 107]⟩, ⟨#[99, 111, 117, 110, 116]⟩, ⟨#[100, 117, 112]⟩, ⟨#[99, 108, 101, 97, 114, 116, 111, 109, 97, 114, 107]⟩] K = (true, K) := by
  obtain ⟨c, hc⟩ : ∃ c, it ((K ++ [mk]).length : Int) = c := ⟨_, rfl⟩
  have hck : c.k = 3 := by rw [← hc]; rfl
  have e1 : markR K = (0, K ++ [mk]) := ps_ok _ _ (by simp; omega)
  have e2 : countR (K ++ [mk]) = (0, K ++ [mk] ++ [c]) := by
    unfold countR
    rw [hc]
    exact ps_ok _ _ (by simp; omega)
  have e3 := dup_is (K ++ [mk]) c (by simp; omega)
  have e4 : ctmR (K ++ [mk] ++ [c] ++ [c]) = (0, K) := by
    have ha : aboveV (K ++ [mk] ++ [c] ++ [c]) = (2 : Nat) := by
      refine above_some (i := 2) (by simp) (o := mk) ?_ rfl ?_
      · simp
      · intro j hj o ho
        have : o = c := by
          match j, hj with
          | 0, _ => simpa using ho.symm
          | 1, _ => simpa using ho.symm
        rw [this, hck]
        decide
    unfold ctmR
    rw [ha, if_neg (by decide)]
    have := ins_app K [mk, c, c] [] 3 rfl (by simp; omega)
    simpa using this
  unfold allR
  rw [do_mark, e1, if_pos rfl]
  unfold allR
  rw [do_count, e2, if_pos rfl]
  unfold allR
  rw [do_dup, e3, if_pos rfl]
  unfold allR
  rw [do_ctm, e4, if_pos rfl]
  rfl
theorem with2 (K : List Ob) (k j : Int) (h : K.length ≤ 98) : withR [k, j] K = (true, K ++ [it k, it j]) := by
  unfold withR
  rw [ps_ok K [it k] (by simp; omega), if_pos rfl]
  unfold withR
  rw [ps_ok (K ++ [it k]) [it j] (by simp; omega), if_pos rfl]
  simp [withR]
theorem rollV_len (T : List Ob) (J : Int) : (rollV T J).length = T.length := rollM_len _ _ _ _
theorem rollV_get (T : List Ob) (J : Int) (m : Nat) (hm : m < T.length) : at_ (rollV T J) m = at_ T (((m : Int) - J) % (T.length : Int)).toNat := by
  unfold rollV rollM
  conv => lhs; unfold at_
  rw [List.getD_eq_getElem?_getD, List.getElem?_map, List.getElem?_range hm]
  have h0 : (0 : Int) < T.length := by omega
  have := Int.emod_lt_of_pos ((m : Int) - J) h0
  have := Int.emod_nonneg ((m : Int) - J) (by omega : (T.length : Int) ≠ 0)
  simp only [Option.map_some, Option.getD_some]
  rw [if_pos (by omega)]
  rfl
theorem ext_at {S T : List Ob} (hl : S.length = T.length) (h : ∀ m, m < T.length → at_ S m = at_ T m) : S = T := by
  refine List.ext_getElem hl fun m h1 h2 => ?_
  have := h m h2
  simpa [at_, List.getD_eq_getElem?_getD, List.getElem?_eq_getElem, h1, h2] using this
theorem rollV_back (T : List Ob) (J : Int) : rollV (rollV T J) (-J) = T := by
  refine ext_at (by rw [rollV_len, rollV_len]) fun m hm => ?_
  have h0 : (0 : Int) < T.length := by omega
  have h1 := Int.emod_lt_of_pos ((m : Int) + J) h0
  have h2 := Int.emod_nonneg ((m : Int) + J) (by omega : (T.length : Int) ≠ 0)
  rw [rollV_get _ _ m (by rw [rollV_len]; exact hm), rollV_len, Int.sub_neg, rollV_get _ _ _ (by omega), Int.toNat_of_nonneg h2]
  rw [Int.sub_emod, Int.emod_emod, ← Int.sub_emod, Int.add_sub_cancel, Int.emod_eq_of_lt (by omega) (by omega), Int.toNat_natCast]
theorem roll_is (K : List Ob) (k : Nat) (J : Int) (hk : k ≤ K.length) (h : K.length ≤ 98) : rollR (K ++ [it k, it J]) = (0, K.take (K.length - k) ++ rollV (K.drop (K.length - k)) J) := by
  have hd : (K ++ [it k, it J]).drop ((K ++ [it k, it J]).length - 2) = [it k, it J] := by simp
  have hN : ctN (K ++ [it k, it J]) 2 = k := by unfold ctN; rw [hd]; rfl
  have hE : ctE (K ++ [it k, it J]) 2 0 = 0 := by
    refine ctE_zero (by simp) ?_ (by rw [hN]; omega) (by rw [hN]; simp; omega)
    rw [hd]
    intro o ho
    simp at ho
    rcases ho with rfl | rfl <;> rfl
  have hJ : ctJ (K ++ [it k, it J]) = J := by unfold ctJ; rw [hd]; rfl
  have hL : ctL (K ++ [it k, it J]) 2 0 = K.drop (K.length - k) := by
    unfold ctL
    rw [hN]
    simp
  unfold rollR
  rw [hE, if_pos rfl, hL, hJ]
  have hdl : (K.drop (K.length - k)).length = k := by simp; omega
  have hsp : K.take (K.length - k) ++ (K.drop (K.length - k) ++ [it k, it J]) = K ++ [it k, it J] := by rw [← List.append_assoc, List.take_append_drop]
  rw [← hsp]
  by_cases h0 : (K.drop (K.length - k)).length = 0
  · rw [if_pos h0]
    rw [List.eq_nil_of_length_eq_zero h0]
    exact ins_app (K.take (K.length - k)) [it k, it J] [] 2 rfl (by simp; omega)
  · rw [if_neg h0]
    exact ins_app _ _ _ _ (by simp) (by rw [rollV_len]; simp; omega)
theorem roll_len (K : List Ob) (k : Nat) (J : Int) (hk : k ≤ K.length) : (K.take (K.length - k) ++ rollV (K.drop (K.length - k)) J).length = K.length := by
  rw [List.length_append, rollV_len]
  simp
theorem turn_roll (K : List Ob) (k : Nat) (J : Int) (hk : k ≤ K.length) (h : K.length ≤ 95) :
    ∃ M, M.length = K.length ∧ allR [⟨#[114, 111, 108, 108]⟩] (K ++ [it k, it J]) = (true, M) ∧ allR [⟨#[114, 111, 108, 108]⟩] (M ++ [it k, it (-J)]) = (true, K) := by
  refine ⟨_, roll_len K k J hk, ?_, ?_⟩
  · unfold allR
    rw [do_roll, roll_is K k J hk (by omega), if_pos rfl]
    rfl
  · obtain ⟨M, hM⟩ : ∃ M, K.take (K.length - k) ++ rollV (K.drop (K.length - k)) J = M := ⟨_, rfl⟩
    have hl : M.length = K.length := by rw [← hM]; exact roll_len K k J hk
    rw [hM]
    unfold allR
    rw [do_roll, roll_is M k (-J) (by omega) (by omega), if_pos rfl]
    have e1 : M.take (M.length - k) = K.take (K.length - k) := by
      rw [hl, ← hM, List.take_append_of_le_length (by simp), List.take_of_length_le (by simp)]
    have e2 : M.drop (M.length - k) = rollV (K.drop (K.length - k)) J := by
      rw [hl, ← hM, List.drop_append_of_le_length (by simp), List.drop_of_length_le (by simp), List.nil_append]
    rw [e1, e2, rollV_back, List.take_append_drop]
    rfl
end Go.Proofs.Ytiadenokcpnliaa.T3
