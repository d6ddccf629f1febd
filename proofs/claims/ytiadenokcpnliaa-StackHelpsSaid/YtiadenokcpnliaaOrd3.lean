/- Regions that draw their order, as before; three operations may come up. -/
import Derived.Test.YtiadenokcpnliaaOrd
namespace Go.Proofs.Ytiadenokcpnliaa.T3
set_option linter.unusedSimpArgs false
set_option linter.unusedVariables false
open Go.RowKit

/-- a plan: one operation after the other; where two may come up, both ways -/
inductive OT where
  | done
  | s (i : Nat) (k : OK) (r : OT)
  | f (i : Nat) (ri : OT) (j : Nat) (rj : OT)
  | f3 (i : Nat) (ri : OT) (j : Nat) (rj : OT) (k : Nat) (rk : OT)
def OT.len : OT → Nat
  | .done => 0
  | .s _ _ r => r.len + 1
  | .f _ ri _ _ => ri.len + 1
  | .f3 _ ri _ _ _ _ => ri.len + 1

def ordOk (ops : Array Oper) : OT → Array Bool → Bool
  | .done, listed => (Region.ready .any ops listed).isEmpty
  | .s i k r, listed =>
    (match k with
      | .e => decide (Region.ready .any ops listed = [i])
      | _ => Region.free .any ops listed i && (Region.ready .any ops listed).contains i) && ordOk ops r (listed.setIfInBounds i true)
  | .f i ri j rj, listed => decide (Region.ready .any ops listed = [i, j]) && (decide (ri.len = rj.len) && (ordOk ops ri (listed.setIfInBounds i true) && ordOk ops rj (listed.setIfInBounds j true)))
  | .f3 i ri j rj k rk, listed => decide (Region.ready .any ops listed = [i, j, k]) && (decide (ri.len = rj.len ∧ ri.len = rk.len) && (ordOk ops ri (listed.setIfInBounds i true) && (ordOk ops rj (listed.setIfInBounds j true) && ordOk ops rk (listed.setIfInBounds k true))))

def wpOrd (P : Program) (ops : Array Oper) (Q : Exit → Act → World → Prop) (S : World → Prop) : OT → Act → World → Prop
  | .done, a, w => Q .normal a w
  | .s i k r, a, w =>
    match ops[i]? with
    | none => False
    | some o =>
      if Region.wanted o (yielded ops a.tmps) = true then
        match k with
        | .p => ∃ v, (∀ w', (execOp a.eval o).run P w' = .ok (.value v) w') ∧ wpOrd P ops Q S r (a.put o.dst v) w
        | .l => ∃ v, (∀ w', S w' → (execOp a.eval o).run P w' = .ok (.value v) w') ∧ wpOrd P ops Q S r (a.put o.dst v) w
        | .e => o.wp P a w (fun a' w' => S w' ∧ wpOrd P ops Q S r a' w') Q
      else wpOrd P ops Q S r (a.put o.dst undef) w
  | .f i ri j rj, a, w =>
    (match ops[i]? with
      | none => False
      | some o =>
        if Region.wanted o (yielded ops a.tmps) = true then o.wp P a w (fun a' w' => S w' ∧ wpOrd P ops Q S ri a' w') Q
        else wpOrd P ops Q S ri (a.put o.dst undef) w) ∧
    (match ops[j]? with
      | none => False
      | some o =>
        if Region.wanted o (yielded ops a.tmps) = true then o.wp P a w (fun a' w' => S w' ∧ wpOrd P ops Q S rj a' w') Q
        else wpOrd P ops Q S rj (a.put o.dst undef) w)
  | .f3 i ri j rj k rk, a, w =>
    (match ops[i]? with
      | none => False
      | some o =>
        if Region.wanted o (yielded ops a.tmps) = true then o.wp P a w (fun a' w' => S w' ∧ wpOrd P ops Q S ri a' w') Q
        else wpOrd P ops Q S ri (a.put o.dst undef) w) ∧
    (match ops[j]? with
      | none => False
      | some o =>
        if Region.wanted o (yielded ops a.tmps) = true then o.wp P a w (fun a' w' => S w' ∧ wpOrd P ops Q S rj a' w') Q
        else wpOrd P ops Q S rj (a.put o.dst undef) w) ∧
    (match ops[k]? with
      | none => False
      | some o =>
        if Region.wanted o (yielded ops a.tmps) = true then o.wp P a w (fun a' w' => S w' ∧ wpOrd P ops Q S rk a' w') Q
        else wpOrd P ops Q S rk (a.put o.dst undef) w)

section
variable {P : Program} {ops : Array Oper} {Q : Exit → Act → World → Prop} {S : World → Prop}

theorem wpOrd_sound (hs : Region.noSelect ops = true) (hQ : ∀ c a d v w, Q (.panic c) (a.put (some d) v) w → Q (.panic c) a w) :
    ∀ (r : OT) (listed : Array Bool) (a : Act) (w : World), ordOk ops r listed = true → S w → wpOrd P ops Q S r a w → wpAnyH P .any ops Q S r.len listed a w
  | .done, listed, a, w, hB, _, h => by
    refine wpAnyH_done ?_ h _
    simpa [ordOk] using hB
  | .s i k r, listed, a, w, hB, hS, h => by
    have hQ' : ∀ c a d v w, Q (.panic c) (a.put d v) w → Q (.panic c) a w := fun c a d v w h => by
      cases d with
      | none => exact h
      | some d => exact hQ c a d v w h
    simp only [ordOk, Bool.and_eq_true] at hB
    obtain ⟨h1, h2⟩ := hB
    simp only [wpOrd] at h
    cases ho : ops[i]? with
    | none => simp [ho] at h
    | some o =>
      simp only [ho] at h
      by_cases hw : Region.wanted o (yielded ops a.tmps) = true
      · simp only [hw, if_true] at h
        cases k with
        | e =>
          simp only [decide_eq_true_eq] at h1
          refine wpAnyH_all h1 (by simp) ?_
          intro j hj
          obtain rfl : j = i := by simpa using hj
          unfold wpOp
          simp only [ho, hw, if_true]
          refine .inl (Oper.wp_mono ?_ h)
          intro a' w' hh
          exact ⟨hh.1, wpOrd_sound hs hQ r _ a' w' h2 hh.1 hh.2⟩
        | p =>
          simp only [Bool.and_eq_true] at h1
          obtain ⟨v, hv, hn⟩ := h
          exact wpAnyH_take ho hs h1.1 h1.2 (fun c a w => hQ' c a _ _ w) (.inl ⟨hw, fun w' _ => hv w'⟩) hS (wpOrd_sound hs hQ r _ _ w h2 hS hn)
        | l =>
          simp only [Bool.and_eq_true] at h1
          obtain ⟨v, hv, hn⟩ := h
          exact wpAnyH_take ho hs h1.1 h1.2 (fun c a w => hQ' c a _ _ w) (.inl ⟨hw, hv⟩) hS (wpOrd_sound hs hQ r _ _ w h2 hS hn)
      · simp only [hw] at h
        have hw' : Region.wanted o (yielded ops a.tmps) = false := by simpa using hw
        cases k with
        | e =>
          simp only [decide_eq_true_eq] at h1
          refine wpAnyH_all h1 (by simp) ?_
          intro j hj
          obtain rfl : j = i := by simpa using hj
          unfold wpOp
          simp only [ho, hw', Bool.false_eq_true, if_false]
          exact ⟨hS, wpOrd_sound hs hQ r _ _ w h2 hS h⟩
        | p =>
          simp only [Bool.and_eq_true] at h1
          exact wpAnyH_take ho hs h1.1 h1.2 (fun c a w => hQ' c a _ _ w) (.inr ⟨hw', rfl⟩) hS (wpOrd_sound hs hQ r _ _ w h2 hS h)
        | l =>
          simp only [Bool.and_eq_true] at h1
          exact wpAnyH_take ho hs h1.1 h1.2 (fun c a w => hQ' c a _ _ w) (.inr ⟨hw', rfl⟩) hS (wpOrd_sound hs hQ r _ _ w h2 hS h)
  | .f i ri j rj, listed, a, w, hB, hS, h => by
    simp only [ordOk, Bool.and_eq_true, decide_eq_true_eq] at hB
    obtain ⟨h1, hl, h2, h3⟩ := hB
    simp only [wpOrd] at h
    obtain ⟨hi, hj⟩ := h
    refine wpAnyH_all h1 (by simp) ?_
    intro k hk
    have hk' : k = i ∨ k = j := by simpa using hk
    rcases hk' with rfl | rfl
    · cases ho : ops[k]? with
      | none => simp [ho] at hi
      | some o =>
        simp only [ho] at hi
        unfold wpOp
        simp only [ho]
        by_cases hw : Region.wanted o (yielded ops a.tmps) = true
        · simp only [hw, if_true] at hi ⊢
          refine .inl (Oper.wp_mono ?_ hi)
          intro a' w' hh
          exact ⟨hh.1, wpOrd_sound hs hQ ri _ a' w' h2 hh.1 hh.2⟩
        · simp only [hw] at hi
          have hw' : Region.wanted o (yielded ops a.tmps) = false := by simpa using hw
          simp only [hw', Bool.false_eq_true, if_false]
          exact ⟨hS, wpOrd_sound hs hQ ri _ _ w h2 hS hi⟩
    · cases ho : ops[k]? with
      | none => simp [ho] at hj
      | some o =>
        simp only [ho] at hj
        unfold wpOp
        simp only [ho]
        by_cases hw : Region.wanted o (yielded ops a.tmps) = true
        · simp only [hw, if_true] at hj ⊢
          refine .inl (Oper.wp_mono ?_ hj)
          intro a' w' hh
          have := wpOrd_sound hs hQ rj _ a' w' h3 hh.1 hh.2
          rw [← hl] at this
          exact ⟨hh.1, this⟩
        · simp only [hw] at hj
          have hw' : Region.wanted o (yielded ops a.tmps) = false := by simpa using hw
          simp only [hw', Bool.false_eq_true, if_false]
          have := wpOrd_sound hs hQ rj _ _ w h3 hS hj
          rw [← hl] at this
          exact ⟨hS, this⟩
  | .f3 i ri j rj m rm, listed, a, w, hB, hS, h => by
    simp only [ordOk, Bool.and_eq_true, decide_eq_true_eq] at hB
    obtain ⟨h1, hl, h2, h3, h4⟩ := hB
    simp only [wpOrd] at h
    obtain ⟨hi, hj, hm⟩ := h
    refine wpAnyH_all h1 (by simp) ?_
    intro k hk
    have hk' : k = i ∨ k = j ∨ k = m := by simpa using hk
    rcases hk' with rfl | rfl | rfl
    · cases ho : ops[k]? with
      | none => simp [ho] at hi
      | some o =>
        simp only [ho] at hi
        unfold wpOp
        simp only [ho]
        by_cases hw : Region.wanted o (yielded ops a.tmps) = true
        · simp only [hw, if_true] at hi ⊢
          refine .inl (Oper.wp_mono ?_ hi)
          intro a' w' hh
          have := wpOrd_sound hs hQ ri _ a' w' h2 hh.1 hh.2
          exact ⟨hh.1, this⟩
        · simp only [hw] at hi
          have hw' : Region.wanted o (yielded ops a.tmps) = false := by simpa using hw
          simp only [hw', Bool.false_eq_true, if_false]
          have := wpOrd_sound hs hQ ri _ _ w h2 hS hi
          exact ⟨hS, this⟩
    · cases ho : ops[k]? with
      | none => simp [ho] at hj
      | some o =>
        simp only [ho] at hj
        unfold wpOp
        simp only [ho]
        by_cases hw : Region.wanted o (yielded ops a.tmps) = true
        · simp only [hw, if_true] at hj ⊢
          refine .inl (Oper.wp_mono ?_ hj)
          intro a' w' hh
          have := wpOrd_sound hs hQ rj _ a' w' h3 hh.1 hh.2
          rw [← hl.1] at this
          exact ⟨hh.1, this⟩
        · simp only [hw] at hj
          have hw' : Region.wanted o (yielded ops a.tmps) = false := by simpa using hw
          simp only [hw', Bool.false_eq_true, if_false]
          have := wpOrd_sound hs hQ rj _ _ w h3 hS hj
          rw [← hl.1] at this
          exact ⟨hS, this⟩
    · cases ho : ops[k]? with
      | none => simp [ho] at hm
      | some o =>
        simp only [ho] at hm
        unfold wpOp
        simp only [ho]
        by_cases hw : Region.wanted o (yielded ops a.tmps) = true
        · simp only [hw, if_true] at hm ⊢
          refine .inl (Oper.wp_mono ?_ hm)
          intro a' w' hh
          have := wpOrd_sound hs hQ rm _ a' w' h4 hh.1 hh.2
          rw [← hl.2] at this
          exact ⟨hh.1, this⟩
        · simp only [hw] at hm
          have hw' : Region.wanted o (yielded ops a.tmps) = false := by simpa using hw
          simp only [hw', Bool.false_eq_true, if_false]
          have := wpOrd_sound hs hQ rm _ _ w h4 hS hm
          rw [← hl.2] at this
          exact ⟨hS, this⟩

/-- The region, from the world behind the draw, in the planned order. -/
theorem wp_region_ord {id : Nat} {a : Act} {w : World} (ord : OT) (S : World → Prop) (hm : P.follows .mixedOrders = true)
    (hB : (Region.noSelect ops && decide (ord.len = ops.size) && ordOk ops ord (Array.replicate ops.size false)) = true)
    (hQ : ∀ c a d v w, Q (.panic c) (a.put (some d) v) w → Q (.panic c) a w) (hS : S w.drew) (h : wpOrd P ops Q S ord a w.drew) : (Code.region id ops true).wp P Q a w := by
  simp only [Bool.and_eq_true, decide_eq_true_eq] at hB
  refine wp_region_held (S := S) hm ?_
  rw [← hB.1.2]
  exact wpOrd_sound hB.1.1 hQ ord _ a _ (by rw [hB.1.2]; exact hB.2) hS h

theorem wpOrd_nil {a : Act} {w : World} (h : Q .normal a w) : wpOrd P ops Q S .done a w := h
theorem wpOrd_p {i : Nat} {r : OT} {a : Act} {w : World} {o : Oper} (ho : ops[i]? = some o)
    (h : ∀ K : Act → Prop, (∀ a, wpOrd P ops Q S r a w → K a) → if Region.wanted o (yielded ops a.tmps) = true then ∃ v, (∀ w', (execOp a.eval o).run P w' = .ok (.value v) w') ∧ K (a.put o.dst v) else K (a.put o.dst undef)) : wpOrd P ops Q S (.s i .p r) a w := by
  simp only [wpOrd, ho]
  exact h _ (fun _ h => h)
theorem wpOrd_l {i : Nat} {r : OT} {a : Act} {w : World} {o : Oper} (ho : ops[i]? = some o)
    (h : ∀ K : Act → Prop, (∀ a, wpOrd P ops Q S r a w → K a) → if Region.wanted o (yielded ops a.tmps) = true then ∃ v, (∀ w', S w' → (execOp a.eval o).run P w' = .ok (.value v) w') ∧ K (a.put o.dst v) else K (a.put o.dst undef)) : wpOrd P ops Q S (.s i .l r) a w := by
  simp only [wpOrd, ho]
  exact h _ (fun _ h => h)
theorem wpOrd_skip {i : Nat} {k : OK} {r : OT} {a : Act} {w : World} {o : Oper} (ho : ops[i]? = some o) (hw : Region.wanted o (yielded ops a.tmps) = false) (hp : a.put o.dst undef = a)
    (h : wpOrd P ops Q S r a w) : wpOrd P ops Q S (.s i k r) a w := by
  simp only [wpOrd, ho, hw, Bool.false_eq_true, if_false, hp]
  exact h
theorem wpOrd_p1 {i : Nat} {r : OT} {a : Act} {w : World} {o : Oper} (ho : ops[i]? = some o) (hw : Region.wanted o (yielded ops a.tmps) = true)
    (h : ∀ K : Act → Prop, (∀ a, wpOrd P ops Q S r a w → K a) → ∃ v, (∀ w', (execOp a.eval o).run P w' = .ok (.value v) w') ∧ K (a.put o.dst v)) : wpOrd P ops Q S (.s i .p r) a w := by
  simp only [wpOrd, ho, hw, if_true]
  exact h _ (fun _ h => h)
theorem wpOrd_l1 {i : Nat} {r : OT} {a : Act} {w : World} {o : Oper} (ho : ops[i]? = some o) (hw : Region.wanted o (yielded ops a.tmps) = true)
    (h : ∀ (K : Act → Prop), (∀ a, wpOrd P ops Q S r a w → K a) → ∃ v, (∀ w', S w' → (execOp a.eval o).run P w' = .ok (.value v) w') ∧ K (a.put o.dst v)) : wpOrd P ops Q S (.s i .l r) a w := by
  simp only [wpOrd, ho, hw, if_true]
  exact h _ (fun _ h => h)
end

section
variable {P : Program} {ops : Array Oper} {Q : Exit → Act → World → Prop} {S : World → Prop}
theorem wpOrd_p2 {i : Nat} {r : OT} {a a' : Act} {w : World} {o : Oper} {d : Tmp} (ho : ops[i]? = some o) (hw : Region.wanted o (yielded ops a.tmps) = true) (hp : plainOp o.op = true) (hd : o.dst = some d) (hlt : decide (d < a.tmps.size) = true)
    (hv : ∀ (w' : World) (K : Act → World → Prop), (K a' w') → o.wp P a w' K (fun _ _ _ => False)) (h : wpOrd P ops Q S r a' w) : wpOrd P ops Q S (.s i .p r) a w := by
  have hl := of_decide_eq_true hlt
  simp only [wpOrd, ho, hw, if_true]
  refine ⟨a'.tmps.getD d undef, fun w' => (plain_wp hp hd hl (hv w' _ ⟨rfl, rfl⟩)).1, ?_⟩
  rw [(plain_wp hp hd hl (hv w _ ⟨rfl, rfl⟩)).2]
  exact h
theorem wpOrd_l2 {i : Nat} {r : OT} {a a' : Act} {w : World} {o : Oper} {d : Tmp} (ho : ops[i]? = some o) (hw : Region.wanted o (yielded ops a.tmps) = true) (hp : plainOp o.op = true) (hd : o.dst = some d) (hlt : decide (d < a.tmps.size) = true)
    (hv : ∀ (w' : World) (K : Act → World → Prop), S w' → (K a' w') → o.wp P a w' K (fun _ _ _ => False)) (hS : S w) (h : wpOrd P ops Q S r a' w) : wpOrd P ops Q S (.s i .l r) a w := by
  have hl := of_decide_eq_true hlt
  simp only [wpOrd, ho, hw, if_true]
  refine ⟨a'.tmps.getD d undef, fun w' hs => (plain_wp hp hd hl (hv w' _ hs ⟨rfl, rfl⟩)).1, ?_⟩
  rw [(plain_wp hp hd hl (hv w _ hS ⟨rfl, rfl⟩)).2]
  exact h
theorem wpOrd_e1 {i : Nat} {r : OT} {a : Act} {w : World} {o : Oper} (ho : ops[i]? = some o) (hw : Region.wanted o (yielded ops a.tmps) = true)
    (h : ∀ K : Act → World → Prop, (∀ a w, S w → wpOrd P ops Q S r a w → K a w) → o.wp P a w K Q) : wpOrd P ops Q S (.s i .e r) a w := by
  simp only [wpOrd, ho, hw, if_true]
  exact h (fun a' w' => S w' ∧ wpOrd P ops Q S r a' w') (fun _ _ h1 h2 => ⟨h1, h2⟩)
theorem wpOrd_f {i j : Nat} {r r' : OT} {a : Act} {w : World} {o o' : Oper} (ho : ops[i]? = some o) (hw : Region.wanted o (yielded ops a.tmps) = true) (ho' : ops[j]? = some o') (hw' : Region.wanted o' (yielded ops a.tmps) = true)
    (h : ∀ K : Act → World → Prop, (∀ a w, S w → wpOrd P ops Q S r a w → K a w) → o.wp P a w K Q) (h' : ∀ K : Act → World → Prop, (∀ a w, S w → wpOrd P ops Q S r' a w → K a w) → o'.wp P a w K Q) : wpOrd P ops Q S (.f i r j r') a w := by
  simp only [wpOrd, ho, ho', hw, hw', if_true]
  exact ⟨h (fun a' w' => S w' ∧ wpOrd P ops Q S r a' w') (fun _ _ h1 h2 => ⟨h1, h2⟩), h' (fun a' w' => S w' ∧ wpOrd P ops Q S r' a' w') (fun _ _ h1 h2 => ⟨h1, h2⟩)⟩
theorem wpOrd_f3 {i j k : Nat} {r r' r'' : OT} {a : Act} {w : World} {o o' o'' : Oper} (ho : ops[i]? = some o) (hw : Region.wanted o (yielded ops a.tmps) = true) (ho' : ops[j]? = some o') (hw' : Region.wanted o' (yielded ops a.tmps) = true) (ho'' : ops[k]? = some o'') (hw'' : Region.wanted o'' (yielded ops a.tmps) = true)
    (h : ∀ K : Act → World → Prop, (∀ a w, S w → wpOrd P ops Q S r a w → K a w) → o.wp P a w K Q) (h' : ∀ K : Act → World → Prop, (∀ a w, S w → wpOrd P ops Q S r' a w → K a w) → o'.wp P a w K Q) (h'' : ∀ K : Act → World → Prop, (∀ a w, S w → wpOrd P ops Q S r'' a w → K a w) → o''.wp P a w K Q) : wpOrd P ops Q S (.f3 i r j r' k r'') a w := by
  simp only [wpOrd, ho, ho', ho'', hw, hw', hw'', if_true]
  exact ⟨h (fun a' w' => S w' ∧ wpOrd P ops Q S r a' w') (fun _ _ h1 h2 => ⟨h1, h2⟩), h' (fun a' w' => S w' ∧ wpOrd P ops Q S r' a' w') (fun _ _ h1 h2 => ⟨h1, h2⟩), h'' (fun a' w' => S w' ∧ wpOrd P ops Q S r'' a' w') (fun _ _ h1 h2 => ⟨h1, h2⟩)⟩
theorem wpOrd_e {i : Nat} {r : OT} {a : Act} {w : World} {o : Oper} (ho : ops[i]? = some o)
    (h : ∀ K : Act → World → Prop, (∀ a w, S w → wpOrd P ops Q S r a w → K a w) → if Region.wanted o (yielded ops a.tmps) = true then o.wp P a w K Q else (∀ a, wpOrd P ops Q S r a w → wpOrd P ops Q S r a w) → wpOrd P ops Q S r (a.put o.dst undef) w) : wpOrd P ops Q S (.s i .e r) a w := by
  simp only [wpOrd, ho]
  have := h (fun a' w' => S w' ∧ wpOrd P ops Q S r a' w') (fun _ _ h1 h2 => ⟨h1, h2⟩)
  split
  · rename_i hw; simp only [hw, if_true] at this; exact this
  · rename_i hw; simp only [hw] at this; exact this (fun _ h => h)
end

attribute [irreducible] wpOrd
end Go.Proofs.Ytiadenokcpnliaa.T3
