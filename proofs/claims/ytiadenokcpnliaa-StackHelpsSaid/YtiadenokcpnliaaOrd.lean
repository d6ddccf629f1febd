/- Regions that draw their order: one walk in a planned order serves every order. Plain operations and loads of cells that stay are taken first; an operation that changes the world is carried out where it alone may come up. -/
import Derived.OrdersHeld
import Derived.KernelRfl
import Derived.Below
namespace Go.Proofs.Ytiadenokcpnliaa
set_option linter.unusedSimpArgs false
set_option linter.unusedVariables false
open Go.RowKit

/-- p: yields its value in every world; l: in every world of the class; e: carried out in its place -/
inductive OK where | p | l | e
  deriving DecidableEq

/-- a plan: one operation after the other; where two may come up, both ways -/
inductive OT where
  | done
  | s (i : Nat) (k : OK) (r : OT)
  | f (i : Nat) (ri : OT) (j : Nat) (rj : OT)
def OT.len : OT → Nat
  | .done => 0
  | .s _ _ r => r.len + 1
  | .f _ ri _ _ => ri.len + 1

def ordOk (ops : Array Oper) : OT → Array Bool → Bool
  | .done, listed => (Region.ready .any ops listed).isEmpty
  | .s i k r, listed =>
    (match k with
      | .e => decide (Region.ready .any ops listed = [i])
      | _ => Region.free .any ops listed i && (Region.ready .any ops listed).contains i) && ordOk ops r (listed.setIfInBounds i true)
  | .f i ri j rj, listed => decide (Region.ready .any ops listed = [i, j]) && (decide (ri.len = rj.len) && (ordOk ops ri (listed.setIfInBounds i true) && ordOk ops rj (listed.setIfInBounds j true)))

def wpOrd (P : Program) (ops : Array Oper) (Q : Exit → Act → World → Prop) (S : World → Prop) : OT → Act → World → Prop
  | .done, a, w => Q .normal a w
  | .s i k r, a, w =>
    match ops[i]? with
    | none => False
    | some o =>
      if Region.wanted o (yielded ops a.tmps) = true then
        match k with
        | .p => ∃ v, (∀ w', (execOp a.eval o).run P w' = .ok (.value v) w') ∧ wpOrd P ops Q S r (a.put o.dst v) w
        | .l => ∃ v, (∀ w', S w' → (execOp a.eval o).run P w' = .ok (.value v) w') ∧ wpOrd P ops Q S r (a.put o.dst v) w
        | .e => o.wp P a w (fun a' w' => S w' ∧ wpOrd P ops Q S r a' w') Q
      else wpOrd P ops Q S r (a.put o.dst undef) w
  | .f i ri j rj, a, w =>
    (match ops[i]? with
      | none => False
      | some o =>
        if Region.wanted o (yielded ops a.tmps) = true then o.wp P a w (fun a' w' => S w' ∧ wpOrd P ops Q S ri a' w') Q
        else wpOrd P ops Q S ri (a.put o.dst undef) w) ∧
    (match ops[j]? with
      | none => False
      | some o =>
        if Region.wanted o (yielded ops a.tmps) = true then o.wp P a w (fun a' w' => S w' ∧ wpOrd P ops Q S rj a' w') Q
        else wpOrd P ops Q S rj (a.put o.dst undef) w)

section
variable {P : Program} {ops : Array Oper} {Q : Exit → Act → World → Prop} {S : World → Prop}

theorem wpOrd_sound (hs : Region.noSelect ops = true) (hQ : ∀ c a d v w, Q (.panic c) (a.put (some d) v) w → Q (.panic c) a w) :
    ∀ (r : OT) (listed : Array Bool) (a : Act) (w : World), ordOk ops r listed = true → S w → wpOrd P ops Q S r a w → wpAnyH P .any ops Q S r.len listed a w
  | .done, listed, a, w, hB, _, h => by
    refine wpAnyH_done ?_ h _
    simpa [ordOk] using hB
  | .s i k r, listed, a, w, hB, hS, h => by
    have hQ' : ∀ c a d v w, Q (.panic c) (a.put d v) w → Q (.panic c) a w := fun c a d v w h => by
      cases d with
      | none => exact h
      | some d => exact hQ c a d v w h
    simp only [ordOk, Bool.and_eq_true] at hB
    obtain ⟨h1, h2⟩ := hB
    simp only [wpOrd] at h
    cases ho : ops[i]? with
    | none => simp [ho] at h
    | some o =>
      simp only [ho] at h
      by_cases hw : Region.wanted o (yielded ops a.tmps) = true
      · simp only [hw, if_true] at h
        cases k with
        | e =>
          simp only [decide_eq_true_eq] at h1
          refine wpAnyH_all h1 (by simp) ?_
          intro j hj
          obtain rfl : j = i := by simpa using hj
          unfold wpOp
          simp only [ho, hw, if_true]
          refine .inl (Oper.wp_mono ?_ h)
          intro a' w' hh
          exact ⟨hh.1, wpOrd_sound hs hQ r _ a' w' h2 hh.1 hh.2⟩
        | p =>
          simp only [Bool.and_eq_true] at h1
          obtain ⟨v, hv, hn⟩ := h
          exact wpAnyH_take ho hs h1.1 h1.2 (fun c a w => hQ' c a _ _ w) (.inl ⟨hw, fun w' _ => hv w'⟩) hS (wpOrd_sound hs hQ r _ _ w h2 hS hn)
        | l =>
          simp only [Bool.and_eq_true] at h1
          obtain ⟨v, hv, hn⟩ := h
          exact wpAnyH_take ho hs h1.1 h1.2 (fun c a w => hQ' c a _ _ w) (.inl ⟨hw, hv⟩) hS (wpOrd_sound hs hQ r _ _ w h2 hS hn)
      · simp only [hw] at h
        have hw' : Region.wanted o (yielded ops a.tmps) = false := by simpa using hw
        cases k with
        | e =>
          simp only [decide_eq_true_eq] at h1
          refine wpAnyH_all h1 (by simp) ?_
          intro j hj
          obtain rfl : j = i := by simpa using hj
          unfold wpOp
          simp only [ho, hw', Bool.false_eq_true, if_false]
          exact ⟨hS, wpOrd_sound hs hQ r _ _ w h2 hS h⟩
        | p =>
          simp only [Bool.and_eq_true] at h1
          exact wpAnyH_take ho hs h1.1 h1.2 (fun c a w => hQ' c a _ _ w) (.inr ⟨hw', rfl⟩) hS (wpOrd_sound hs hQ r _ _ w h2 hS h)
        | l =>
          simp only [Bool.and_eq_true] at h1
          exact wpAnyH_take ho hs h1.1 h1.2 (fun c a w => hQ' c a _ _ w) (.inr ⟨hw', rfl⟩) hS (wpOrd_sound hs hQ r _ _ w h2 hS h)
  | .f i ri j rj, listed, a, w, hB, hS, h => by
    simp only [ordOk, Bool.and_eq_true, decide_eq_true_eq] at hB
    obtain ⟨h1, hl, h2, h3⟩ := hB
    simp only [wpOrd] at h
    obtain ⟨hi, hj⟩ := h
    refine wpAnyH_all h1 (by simp) ?_
    intro k hk
    have hk' : k = i ∨ k = j := by simpa using hk
    rcases hk' with rfl | rfl
    · cases ho : ops[k]? with
      | none => simp [ho] at hi
      | some o =>
        simp only [ho] at hi
        unfold wpOp
        simp only [ho]
        by_cases hw : Region.wanted o (yielded ops a.tmps) = true
        · simp only [hw, if_true] at hi ⊢
          refine .inl (Oper.wp_mono ?_ hi)
          intro a' w' hh
          exact ⟨hh.1, wpOrd_sound hs hQ ri _ a' w' h2 hh.1 hh.2⟩
        · simp only [hw] at hi
          have hw' : Region.wanted o (yielded ops a.tmps) = false := by simpa using hw
          simp only [hw', Bool.false_eq_true, if_false]
          exact ⟨hS, wpOrd_sound hs hQ ri _ _ w h2 hS hi⟩
    · cases ho : ops[k]? with
      | none => simp [ho] at hj
      | some o =>
        simp only [ho] at hj
        unfold wpOp
        simp only [ho]
        by_cases hw : Region.wanted o (yielded ops a.tmps) = true
        · simp only [hw, if_true] at hj ⊢
          refine .inl (Oper.wp_mono ?_ hj)
          intro a' w' hh
          have := wpOrd_sound hs hQ rj _ a' w' h3 hh.1 hh.2
          rw [← hl] at this
          exact ⟨hh.1, this⟩
        · simp only [hw] at hj
          have hw' : Region.wanted o (yielded ops a.tmps) = false := by simpa using hw
          simp only [hw', Bool.false_eq_true, if_false]
          have := wpOrd_sound hs hQ rj _ _ w h3 hS hj
          rw [← hl] at this
          exact ⟨hS, this⟩

/-- The region, from the world behind the draw, in the planned order. -/
theorem wp_region_ord {id : Nat} {a : Act} {w : World} (ord : OT) (S : World → Prop) (hm : P.follows .mixedOrders = true)
    (hB : (Region.noSelect ops && decide (ord.len = ops.size) && ordOk ops ord (Array.replicate ops.size false)) = true)
    (hQ : ∀ c a d v w, Q (.panic c) (a.put (some d) v) w → Q (.panic c) a w) (hS : S w.drew) (h : wpOrd P ops Q S ord a w.drew) : (Code.region id ops true).wp P Q a w := by
  simp only [Bool.and_eq_true, decide_eq_true_eq] at hB
  refine wp_region_held (S := S) hm ?_
  rw [← hB.1.2]
  exact wpOrd_sound hB.1.1 hQ ord _ a _ (by rw [hB.1.2]; exact hB.2) hS h

theorem wpOrd_nil {a : Act} {w : World} (h : Q .normal a w) : wpOrd P ops Q S .done a w := h
theorem wpOrd_p {i : Nat} {r : OT} {a : Act} {w : World} {o : Oper} (ho : ops[i]? = some o)
    (h : ∀ K : Act → Prop, (∀ a, wpOrd P ops Q S r a w → K a) → if Region.wanted o (yielded ops a.tmps) = true then ∃ v, (∀ w', (execOp a.eval o).run P w' = .ok (.value v) w') ∧ K (a.put o.dst v) else K (a.put o.dst undef)) : wpOrd P ops Q S (.s i .p r) a w := by
  simp only [wpOrd, ho]
  exact h _ (fun _ h => h)
theorem wpOrd_l {i : Nat} {r : OT} {a : Act} {w : World} {o : Oper} (ho : ops[i]? = some o)
    (h : ∀ K : Act → Prop, (∀ a, wpOrd P ops Q S r a w → K a) → if Region.wanted o (yielded ops a.tmps) = true then ∃ v, (∀ w', S w' → (execOp a.eval o).run P w' = .ok (.value v) w') ∧ K (a.put o.dst v) else K (a.put o.dst undef)) : wpOrd P ops Q S (.s i .l r) a w := by
  simp only [wpOrd, ho]
  exact h _ (fun _ h => h)
theorem wpOrd_skip {i : Nat} {k : OK} {r : OT} {a : Act} {w : World} {o : Oper} (ho : ops[i]? = some o) (hw : Region.wanted o (yielded ops a.tmps) = false) (hp : a.put o.dst undef = a)
    (h : wpOrd P ops Q S r a w) : wpOrd P ops Q S (.s i k r) a w := by
  simp only [wpOrd, ho, hw, Bool.false_eq_true, if_false, hp]
  exact h
theorem wpOrd_p1 {i : Nat} {r : OT} {a : Act} {w : World} {o : Oper} (ho : ops[i]? = some o) (hw : Region.wanted o (yielded ops a.tmps) = true)
    (h : ∀ K : Act → Prop, (∀ a, wpOrd P ops Q S r a w → K a) → ∃ v, (∀ w', (execOp a.eval o).run P w' = .ok (.value v) w') ∧ K (a.put o.dst v)) : wpOrd P ops Q S (.s i .p r) a w := by
  simp only [wpOrd, ho, hw, if_true]
  exact h _ (fun _ h => h)
theorem wpOrd_l1 {i : Nat} {r : OT} {a : Act} {w : World} {o : Oper} (ho : ops[i]? = some o) (hw : Region.wanted o (yielded ops a.tmps) = true)
    (h : ∀ (K : Act → Prop), (∀ a, wpOrd P ops Q S r a w → K a) → ∃ v, (∀ w', S w' → (execOp a.eval o).run P w' = .ok (.value v) w') ∧ K (a.put o.dst v)) : wpOrd P ops Q S (.s i .l r) a w := by
  simp only [wpOrd, ho, hw, if_true]
  exact h _ (fun _ h => h)
end

/-- operations that hand back a value and make no call -/
def plainOp : Op → Bool
  | .nilCheck _ | .move _ | .assign _ | .pick .. | .build .. | .load .. | .binOp .. | .unOp .. | .convert .. | .sliceToArrayPointer .. | .makeFunc .. | .slice .. | .fieldAddr .. | .field .. | .indexAddr .. | .index .. | .lookup .. | .extract .. | .makeInterface .. => true
  | .call { callee := .builtin b, .. } => match b with | .len | .cap | .min | .max => true | _ => false
  | _ => false
theorem run_value {P : Program} {s : Sem Value} {w w' : World} {n : Next} (h : (do pure (Next.value (← s)) : Sem Next).run P w = .ok n w') : ∃ u, n = .value u := by
  simp only [Sem.run_bind] at h
  cases hs : s.run P w with
  | ok x w1 => rw [hs] at h; simp at h; exact ⟨x, h.1.symm⟩
  | halt x w1 => rw [hs] at h; simp [Result.andThen] at h
theorem run_pick {P : Program} {ρ : Operand → Value} {c a b : Operand} {w w' : World} {n : Next} (h : (do pure (Next.value (if ← asBool (ρ c) then ρ a else ρ b)) : Sem Next).run P w = .ok n w') : ∃ u, n = .value u := by
  simp only [Sem.run_bind] at h
  cases hs : (asBool (ρ c)).run P w with
  | ok x w1 => rw [hs] at h; simp at h; exact ⟨_, h.1.symm⟩
  | halt x w1 => rw [hs] at h; simp [Result.andThen] at h
theorem plain_value {P : Program} {ρ : Operand → Value} {o : Oper} {w w' : World} {n : Next} (hp : plainOp o.op = true) (h : (execOp ρ o).run P w = .ok n w') : ∃ u, n = .value u := by
  unfold execOp at h
  cases hop : o.op <;> rw [hop] at h hp <;> (try exact absurd hp Bool.false_ne_true) <;> (try exact run_value h) <;> (try exact run_pick h)
  case move x => exact ⟨_, (by simpa using h.symm : _ ∧ _).1⟩
  case nilCheck x =>
    simp only at h
    split at h
    all_goals first
      | exact ⟨_, (by simpa using h.symm : _ ∧ _).1⟩
      | (simp [runtimePanic] at h; done)
      | skip
    split at h
    all_goals first
      | exact ⟨_, (by simpa using h.symm : _ ∧ _).1⟩
      | (simp [runtimePanic] at h; done)
      | skip
    simp only [Sem.run_bind] at h
    generalize Sem.run P program w = r at h
    cases r with
    | halt x w1 => simp [Result.andThen] at h
    | ok p w1 =>
      simp only [Result.andThen_ok] at h
      generalize Sem.run P (nilAhead _ _ _ _) w1 = r2 at h
      cases r2 with
      | halt x w2 => simp [Result.andThen] at h
      | ok b w2 =>
        simp only [Result.andThen_ok] at h
        split at h
        · simp [unsupported] at h
        · exact ⟨_, (by simpa using h.symm : _ ∧ _).1⟩
  case assign x => exact ⟨_, (by simpa using h.symm : _ ∧ _).1⟩
  case call c =>
    obtain ⟨callee, args, ats⟩ := c
    cases callee with
    | builtin b =>
      cases b <;> (try exact absurd hp Bool.false_ne_true) <;> exact run_value (by simpa [resolve, invoke, builtin] using h)
    | value f => simp [plainOp] at hp
    | invoke r m => simp [plainOp] at hp

section
variable {P : Program} {ops : Array Oper} {Q : Exit → Act → World → Prop} {S : World → Prop}
theorem plain_wp {a a' : Act} {w : World} {o : Oper} {d : Tmp} (hp : plainOp o.op = true) (hd : o.dst = some d) (hlt : d < a.tmps.size)
    (h : o.wp P a w (fun a'' w'' => w'' = w ∧ a'' = a') (fun _ _ _ => False)) : (execOp a.eval o).run P w = .ok (.value (a'.tmps.getD d undef)) w ∧ a.put o.dst (a'.tmps.getD d undef) = a' := by
  unfold Oper.wp at h
  cases hr : (execOp a.eval o).run P w with
  | ok n w1 =>
    obtain ⟨u, rfl⟩ := plain_value hp hr
    rw [hr] at h
    obtain ⟨rfl, rfl⟩ := h
    have hu : (a.put o.dst u).tmps.getD d undef = u := by
      rw [hd]
      simp [Act.put, Array.getD_eq_getD_getElem?, hlt]
    rw [hu]
    exact ⟨rfl, rfl⟩
  | halt x w1 =>
    rw [hr] at h
    cases x <;> simp [Oper.upon] at h
theorem wpOrd_p2 {i : Nat} {r : OT} {a a' : Act} {w : World} {o : Oper} {d : Tmp} (ho : ops[i]? = some o) (hw : Region.wanted o (yielded ops a.tmps) = true) (hp : plainOp o.op = true) (hd : o.dst = some d) (hlt : decide (d < a.tmps.size) = true)
    (hv : ∀ (w' : World) (K : Act → World → Prop), (K a' w') → o.wp P a w' K (fun _ _ _ => False)) (h : wpOrd P ops Q S r a' w) : wpOrd P ops Q S (.s i .p r) a w := by
  have hl := of_decide_eq_true hlt
  simp only [wpOrd, ho, hw, if_true]
  refine ⟨a'.tmps.getD d undef, fun w' => (plain_wp hp hd hl (hv w' _ ⟨rfl, rfl⟩)).1, ?_⟩
  rw [(plain_wp hp hd hl (hv w _ ⟨rfl, rfl⟩)).2]
  exact h
theorem wpOrd_l2 {i : Nat} {r : OT} {a a' : Act} {w : World} {o : Oper} {d : Tmp} (ho : ops[i]? = some o) (hw : Region.wanted o (yielded ops a.tmps) = true) (hp : plainOp o.op = true) (hd : o.dst = some d) (hlt : decide (d < a.tmps.size) = true)
    (hv : ∀ (w' : World) (K : Act → World → Prop), S w' → (K a' w') → o.wp P a w' K (fun _ _ _ => False)) (hS : S w) (h : wpOrd P ops Q S r a' w) : wpOrd P ops Q S (.s i .l r) a w := by
  have hl := of_decide_eq_true hlt
  simp only [wpOrd, ho, hw, if_true]
  refine ⟨a'.tmps.getD d undef, fun w' hs => (plain_wp hp hd hl (hv w' _ hs ⟨rfl, rfl⟩)).1, ?_⟩
  rw [(plain_wp hp hd hl (hv w _ hS ⟨rfl, rfl⟩)).2]
  exact h
theorem wpOrd_e1 {i : Nat} {r : OT} {a : Act} {w : World} {o : Oper} (ho : ops[i]? = some o) (hw : Region.wanted o (yielded ops a.tmps) = true)
    (h : ∀ K : Act → World → Prop, (∀ a w, S w → wpOrd P ops Q S r a w → K a w) → o.wp P a w K Q) : wpOrd P ops Q S (.s i .e r) a w := by
  simp only [wpOrd, ho, hw, if_true]
  exact h (fun a' w' => S w' ∧ wpOrd P ops Q S r a' w') (fun _ _ h1 h2 => ⟨h1, h2⟩)
theorem wpOrd_f {i j : Nat} {r r' : OT} {a : Act} {w : World} {o o' : Oper} (ho : ops[i]? = some o) (hw : Region.wanted o (yielded ops a.tmps) = true) (ho' : ops[j]? = some o') (hw' : Region.wanted o' (yielded ops a.tmps) = true)
    (h : ∀ K : Act → World → Prop, (∀ a w, S w → wpOrd P ops Q S r a w → K a w) → o.wp P a w K Q) (h' : ∀ K : Act → World → Prop, (∀ a w, S w → wpOrd P ops Q S r' a w → K a w) → o'.wp P a w K Q) : wpOrd P ops Q S (.f i r j r') a w := by
  simp only [wpOrd, ho, ho', hw, hw', if_true]
  exact ⟨h (fun a' w' => S w' ∧ wpOrd P ops Q S r a' w') (fun _ _ h1 h2 => ⟨h1, h2⟩), h' (fun a' w' => S w' ∧ wpOrd P ops Q S r' a' w') (fun _ _ h1 h2 => ⟨h1, h2⟩)⟩
theorem wpOrd_e {i : Nat} {r : OT} {a : Act} {w : World} {o : Oper} (ho : ops[i]? = some o)
    (h : ∀ K : Act → World → Prop, (∀ a w, S w → wpOrd P ops Q S r a w → K a w) → if Region.wanted o (yielded ops a.tmps) = true then o.wp P a w K Q else (∀ a, wpOrd P ops Q S r a w → wpOrd P ops Q S r a w) → wpOrd P ops Q S r (a.put o.dst undef) w) : wpOrd P ops Q S (.s i .e r) a w := by
  simp only [wpOrd, ho]
  have := h (fun a' w' => S w' ∧ wpOrd P ops Q S r a' w') (fun _ _ h1 h2 => ⟨h1, h2⟩)
  split
  · rename_i hw; simp only [hw, if_true] at this; exact this
  · rename_i hw; simp only [hw] at this; exact this (fun _ h => h)
end

attribute [irreducible] wpOrd

/-- The world is as it was below its size, but for the blocks named in X. -/
def Held (w0 : World) (X : List Nat) (w' : World) : Prop := ∀ k, k < w0.heap.size → k ∉ X → w'.heap[k]? = w0.heap[k]?
theorem Held.cell {w0 w' : World} {X : List Nat} (h : Held w0 X w') (b o : Nat) (hb : b < w0.heap.size) (hx : b ∉ X) : w'.cell? ⟨b, o, none⟩ = w0.cell? ⟨b, o, none⟩ :=
  World.cell?_of_block (w := w0) (h b hb hx)
theorem Held.refl (w0 : World) (X : List Nat) : Held w0 X w0 := fun _ _ _ => rfl
theorem Held.drew {w0 w : World} {X : List Nat} (h : Held w0 X w) : Held w0 X w.drew := h
theorem Held.of_below {w0 w : World} {X : List Nat} (h : Below w0.heap.size w0 w) : Held w0 X w := fun k hk _ => h.block k hk
theorem Held.then {w0 w1 w2 : World} {X : List Nat} (h : Held w0 X w1) (hs : w0.heap.size ≤ w1.heap.size) (k : Below w1.heap.size w1 w2) : Held w0 X w2 := fun i hi hx => (k.block i (Nat.lt_of_lt_of_le hi hs)).trans (h i hi hx)
theorem Held.alloc {w0 w : World} {X : List Nat} (h : Held w0 X w) (hs : w0.heap.size ≤ w.heap.size) (o : Obj) : Held w0 X (w.alloc o) := fun i hi hx => (Below.heap_alloc w o i (Nat.lt_of_lt_of_le hi hs)).trans (h i hi hx)
theorem Held.setCell {w0 w : World} {X : List Nat} (h : Held w0 X w) (p : Addr) (v : Value) (hp : w0.heap.size ≤ p.block ∨ p.block ∈ X) : Held w0 X (w.setCell p v) := fun i hi hx =>
  (Below.heap_setCell w p v i (fun e => by subst e; rcases hp with hp | hp; exact absurd hi (by omega); exact hx hp)).trans (h i hi hx)
end Go.Proofs.Ytiadenokcpnliaa
