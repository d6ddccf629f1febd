/- Regions that draw their order, and make blocks: one walk in a planned order serves every order. Operations that make something (an alloc, a literal of a slice, a call that leaves old memory as it is) may come up in any order: of each the walk knows the kind of its value alone, and what its own new block holds. -/
import Derived.Test.YtiadenokcpnliaaOrd3
import Derived.Test.YtiadenokcpnliaaBase
import Derived.Laws.Rows
namespace Go.Proofs.Ytiadenokcpnliaa.T3
set_option linter.unusedSimpArgs false
set_option linter.unusedVariables false
open Go.RowKit

/-- what such an operation leaves: a value of a kind; or a new block -/
inductive Made where
  | val (p : Value → Prop)
  | blk (mk : Nat → Value) (o : Obj)
  | prp (s : Value → Prop) (p : Nat → Value → World → Prop) (h1 : ∀ n v w w', p n v w → Below w.heap.size w w' → p n v w') (h2 : ∀ n n' v w, n' ≤ n → p n v w → p n' v w)
def Made.sh : Made → Value → Prop
  | .val p, v => p v
  | .blk mk _, v => ∃ b, v = mk b
  | .prp s _ _ _, v => s v
def Made.at (m : Made) (n : Nat) (v : Value) (w : World) : Prop :=
  match m with
  | .val _ => True
  | .blk mk o => ∃ b, v = mk b ∧ n ≤ b ∧ b < w.heap.size ∧ w.heap[b]? = some o
  | .prp _ p _ _ => p n v w
theorem Made.stable {m : Made} {n : Nat} {v : Value} {w w' : World} (h : m.at n v w) (hb : Below w.heap.size w w') : m.at n v w' := by
  cases m with
  | val p => trivial
  | blk mk o =>
    obtain ⟨b, rfl, h1, h2, h3⟩ := h
    exact ⟨b, rfl, h1, Nat.lt_of_lt_of_le h2 hb.size, (hb.block b h2).trans h3⟩
  | prp s p h1 h2 => exact h1 _ _ _ _ h hb

theorem Made.weak {m : Made} {n n' : Nat} {v : Value} {w : World} (h : m.at n v w) (hn : n' ≤ n) : m.at n' v w := by
  cases m with
  | val p => trivial
  | blk mk o =>
    obtain ⟨b, rfl, h1, h2, h3⟩ := h
    exact ⟨b, rfl, Nat.le_trans hn h1, h2, h3⟩
  | prp s p h1 h2 => exact h2 _ _ _ _ hn h
/-- two new blocks are two -/
def Dist (n : Nat) (w : World) (p q : Nat × Made × Value) : Prop := ∀ mk o mk' o', p.2.1 = .blk mk o → q.2.1 = .blk mk' o' → ∃ b c, p.2.2 = mk b ∧ q.2.2 = mk' c ∧ n ≤ b ∧ n ≤ c ∧ b ≠ c ∧ w.heap[b]? = some o ∧ w.heap[c]? = some o'
theorem Dist.stable {n : Nat} {p q : Nat × Made × Value} {w w' : World} (h : Dist n w p q) (hb : Below w.heap.size w w') : Dist n w' p q := by
  intro mk o mk' o' h1 h2
  obtain ⟨b, c, e1, e2, l1, l2, hn, g1, g2⟩ := h mk o mk' o' h1 h2
  exact ⟨b, c, e1, e2, l1, l2, hn, (hb.block b (Array.getElem?_eq_some_iff.1 g1).1).trans g1, (hb.block c (Array.getElem?_eq_some_iff.1 g2).1).trans g2⟩
theorem Dist.new {n : Nat} {p : Nat × Made × Value} {j : Nat} {m : Made} {v : Value} {w w' : World} (hp : p.2.1.at n p.2.2 w) (hn : n ≤ w.heap.size) (hb : Below w.heap.size w w') (hv : m.at w.heap.size v w') : Dist n w' (j, m, v) p ∧ Dist n w' p (j, m, v) := by
  constructor
  · intro mk o mk' o' h1 h2
    simp only at h1
    subst h1
    rw [h2] at hp
    obtain ⟨b, e1, l1, _, g1⟩ := hv
    obtain ⟨c, e2, l2, l3, g2⟩ := hp
    exact ⟨b, c, e1, e2, Nat.le_trans hn l1, l2, by omega, g1, (hb.block c l3).trans g2⟩
  · intro mk o mk' o' h1 h2
    simp only at h2
    subst h2
    rw [h1] at hp
    obtain ⟨b, e1, l1, _, g1⟩ := hv
    obtain ⟨c, e2, l2, l3, g2⟩ := hp
    exact ⟨c, b, e2, e1, l2, Nat.le_trans hn l1, by omega, (hb.block c l3).trans g2, g1⟩

/-- i is done ahead of k in every order -/
def anc (ops : Array Oper) : Nat → Nat → Nat → Bool
  | 0, _, _ => false
  | f + 1, k, i => match ops[k]? with
    | none => false
    | some o => o.after.any fun e => Region.binds .any e && (e.on == i || anc ops f e.on i)

abbrev St := Nat × Option Made
abbrev Ga := List (Nat × Made × Value)

def Cls (ops : Array Oper) (w0 : World) (Γ : Ga) (j : Nat) (w : World) : Prop := Below w0.heap.size w0 w ∧ ∀ p ∈ Γ, anc ops ops.size j p.1 = true → p.2.1.at w0.heap.size p.2.2 w

/-- the operation's result meets Post -/
def gives (P : Program) (o : Oper) (a : Act) (w : World) (Post : Value → World → Prop) : Prop :=
  match (execOp a.eval o).run P w with
  | .ok (.value v) w' => Post v w'
  | .ok .skip w' => Post undef w'
  | .ok (.enter f args) w' => Calls P f args w' fun e w'' => ∃ v, e = .returned v ∧ Post v w''
  | .ok (.row row args) w' => Rows P row args w' Post
  | _ => False

def wpG (P : Program) (ops : Array Oper) (Q : Exit → Act → World → Prop) (w0 : World) (r : OT) : List St → Ga → Act → Prop
  | [], Γ, a => ∀ w, Below w0.heap.size w0 w → (∀ p ∈ Γ, p.2.1.at w0.heap.size p.2.2 w) → (∀ p ∈ Γ, ∀ q ∈ Γ, p.1 ≠ q.1 → Dist w0.heap.size w p q) → wpOrd P ops Q (fun _ => True) r a w
  | (i, none) :: L, Γ, a => ∃ o, ops[i]? = some o ∧ ∃ v, ((Region.wanted o (yielded ops a.tmps) = true ∧ ∀ w, Cls ops w0 Γ i w → (execOp a.eval o).run P w = .ok (.value v) w) ∨ (Region.wanted o (yielded ops a.tmps) = false ∧ v = undef)) ∧ wpG P ops Q w0 r L Γ (a.put o.dst v)
  | (i, some m) :: L, Γ, a => ∃ o, ops[i]? = some o ∧ Region.wanted o (yielded ops a.tmps) = true ∧ (∃ v, m.sh v) ∧
      (∀ w, Cls ops w0 Γ i w → gives P o a w fun v w' => m.sh v ∧ Below w.heap.size w w' ∧ m.at w.heap.size v w') ∧ ∀ v, m.sh v → wpG P ops Q w0 r L ((i, m, v) :: Γ) (a.put o.dst v)

section
variable {P : Program} {ops : Array Oper} {Q : Exit → Act → World → Prop} {w0 : World} {r : OT}

theorem gives_wp {o : Oper} {a : Act} {w : World} {Post : Value → World → Prop} (h : gives P o a w Post) : o.wp P a w (fun a' w' => ∃ v, Post v w' ∧ a' = a.put o.dst v) Q := by
  unfold gives at h
  unfold Oper.wp
  cases hr : (execOp a.eval o).run P w with
  | ok n w' =>
    rw [hr] at h
    cases n <;> simp only [Oper.upon] at h ⊢
    case value v => exact ⟨v, h, rfl⟩
    case skip => exact ⟨undef, h, rfl⟩
    case enter f args =>
      refine Calls.mono h fun e w'' he => ?_
      obtain ⟨v, rfl, hp⟩ := he
      exact ⟨v, hp, rfl⟩
    case row row args => exact Rows.mono h fun v w'' he => ⟨v, he, rfl⟩
  | halt x w' =>
    rw [hr] at h
    exact absurd h (by simp)
theorem gives_put {o : Oper} {a : Act} {w : World} {Post : Value → World → Prop} (hs : ∀ cs b, o.op ≠ .select cs b) (d : Option Tmp) (v : Value) (hd : ∀ t, d = some t → t ∉ o.looksAt ops) : gives P o (a.put d v) w Post ↔ gives P o a w Post := by
  unfold gives
  rw [execOp_put (ops := ops) o hs a d v hd]
theorem put_inj {a : Act} {d : Tmp} {u v : Value} (hlt : d < a.tmps.size) (h : a.put (some d) u = a.put (some d) v) : u = v := by
  have := congrArg (fun x => x.tmps.getD d undef) h
  simpa [Act.put, Array.getD_eq_getD_getElem?, hlt] using this
theorem gives_of {o : Oper} {a : Act} {w : World} {Post : Value → World → Prop} {d : Tmp} (hd : o.dst = some d) (hlt : d < a.tmps.size)
    (h : ∀ K : Act → World → Prop, (∀ v w', Post v w' → K (a.put o.dst v) w') → o.wp P a w K (fun _ _ _ => False)) : gives P o a w Post := by
  have h1 := h (fun a' w' => ∃ v, Post v w' ∧ a' = a.put o.dst v) (fun v w' hp => ⟨v, hp, rfl⟩)
  unfold Oper.wp at h1
  unfold gives
  cases hr : (execOp a.eval o).run P w with
  | ok n w' =>
    rw [hr] at h1
    cases n <;> simp only [Oper.upon] at h1 ⊢
    case value v =>
      obtain ⟨u, hp, e⟩ := h1
      rw [hd] at e
      rw [put_inj hlt e]
      exact hp
    case skip =>
      obtain ⟨u, hp, e⟩ := h1
      rw [hd] at e
      rw [put_inj hlt e]
      exact hp
    case enter f args =>
      refine Calls.mono h1 fun e w'' he => ?_
      cases e with
      | returned v =>
        obtain ⟨u, hp, e⟩ := he
        rw [hd] at e
        exact ⟨v, rfl, by rw [put_inj hlt e]; exact hp⟩
      | panicked c => exact absurd he (by simp)
      | outgrown =>
        obtain ⟨_, _, h⟩ := he
        exact absurd h (by simp)
    case defer x =>
      obtain ⟨u, _, e⟩ := h1
      have := congrArg (fun x => x.defers.length) e
      rw [hd] at this
      simp [Act.put] at this
    case row x y =>
      refine Rows.mono h1 fun v w'' he => ?_
      obtain ⟨u, hp, e⟩ := he
      rw [hd] at e
      rw [put_inj hlt e]
      exact hp
  | halt x w' =>
    rw [hr] at h1
    cases x <;> simp [Oper.upon] at h1

theorem anc_listed {listed : Array Bool} (hc : ∀ k o, ops[k]? = some o → listed.getD k false = true → ∀ e ∈ o.after, Region.binds .any e = true → listed.getD e.on false = true) :
    ∀ (f k i : Nat) (o : Oper), ops[k]? = some o → (∀ e ∈ o.after, Region.binds .any e = true → listed.getD e.on false = true) → anc ops f k i = true → listed.getD i false = true := by
  intro f
  induction f with
  | zero => intro k i o _ _ h; simp [anc] at h
  | succ f ih =>
    intro k i o ho hall h
    simp only [anc, ho] at h
    obtain ⟨e, he, hb⟩ := Array.any_eq_true'.1 h
    simp only [Bool.and_eq_true, Bool.or_eq_true, beq_iff_eq] at hb
    obtain ⟨hb, h1⟩ := hb
    have hl := hall e he hb
    rcases h1 with rfl | h1
    · exact hl
    · cases ho' : ops[e.on]? with
      | none => cases f <;> simp [anc, ho'] at h1
      | some o' => exact ih e.on i o' ho' (hc e.on o' ho' hl) h1

theorem Cls.sub {Γ Γ' : Ga} {j : Nat} {w : World} (h : Cls ops w0 Γ' j w) (hs : ∀ p ∈ Γ, p ∈ Γ' ∨ anc ops ops.size j p.1 = false) : Cls ops w0 Γ j w :=
  ⟨h.1, fun p hp ha => (hs p hp).elim (fun h' => h.2 p h' ha) (fun h' => by rw [h'] at ha; cases ha)⟩

theorem wpG_more : ∀ (L : List St) (Γ Γ' : Ga) (a : Act), (∀ p ∈ Γ, p ∈ Γ') → wpG P ops Q w0 r L Γ a → wpG P ops Q w0 r L Γ' a
  | [], Γ, Γ', a, hs, h => fun w hb hg hd => h w hb (fun p hp => hg p (hs p hp)) (fun p hp q hq => hd p (hs p hp) q (hs q hq))
  | (i, none) :: L, Γ, Γ', a, hs, h => by
    obtain ⟨o, ho, v, hv, h⟩ := h
    exact ⟨o, ho, v, hv.imp (fun ⟨hw, hv⟩ => ⟨hw, fun w hc => hv w (hc.sub fun p hp => .inl (hs p hp))⟩) id, wpG_more L Γ Γ' _ hs h⟩
  | (i, some m) :: L, Γ, Γ', a, hs, h => by
    obtain ⟨o, ho, hw, hex, hg, h⟩ := h
    refine ⟨o, ho, hw, hex, fun w hc => hg w (hc.sub fun p hp => .inl (hs p hp)), fun v hv => wpG_more L _ _ _ (fun p hp => ?_) (h v hv)⟩
    rcases List.mem_cons.1 hp with rfl | hp
    · exact List.mem_cons_self
    · exact List.mem_cons_of_mem _ (hs p hp)

/-- what a step asks, at one world -/
def Now (P : Program) (ops : Array Oper) (oj : Oper) (a : Act) (w : World) (v : Value) : Prop :=
  (Region.wanted oj (yielded ops a.tmps) = true ∧ (execOp a.eval oj).run P w = .ok (.value v) w) ∨ (Region.wanted oj (yielded ops a.tmps) = false ∧ v = undef)
theorem Now.uniq {oj : Oper} {a : Act} {w : World} {v v' : Value} (h : Now P ops oj a w v) (h' : Now P ops oj a w v') : v = v' := by
  rcases h with ⟨h1, h2⟩ | ⟨h1, h2⟩ <;> rcases h' with ⟨h3, h4⟩ | ⟨h3, h4⟩
  · rw [h2] at h4; simpa using h4
  · rw [h1] at h3; cases h3
  · rw [h1] at h3; cases h3
  · rw [h2, h4]
theorem Now.put {oj : Oper} {a : Act} {w : World} {v : Value} (hs : ∀ cs b, oj.op ≠ .select cs b) (d : Option Tmp) (u : Value) (hd : ∀ t, d = some t → t ∉ oj.looksAt ops) : Now P ops oj (a.put d u) w v ↔ Now P ops oj a w v := by
  unfold Now
  rw [execOp_put (ops := ops) oj hs a d u hd, wanted_put (ops := ops) oj a d u hd]

theorem extract_s (hsel : Region.noSelect ops = true) (j : Nat) (oj : Oper) (hj : ops[j]? = some oj) (post : List St) : ∀ (pre : List St) (Γ : Ga) (a : Act) (w : World),
    (∀ p ∈ pre, anc ops ops.size j p.1 = false ∧ ∀ o, ops[p.1]? = some o → o.apart ops oj = true) → Cls ops w0 Γ j w → wpG P ops Q w0 r (pre ++ (j, none) :: post) Γ a →
    ∃ v, Now P ops oj a w v ∧ wpG P ops Q w0 r (pre ++ post) Γ (a.put oj.dst v)
  | [], Γ, a, w, _, hc, h => by
    obtain ⟨o, ho, v, hv, h⟩ := h
    rw [hj] at ho
    obtain rfl : oj = o := by simpa using ho
    exact ⟨v, hv.imp (fun ⟨hw, hv⟩ => ⟨hw, hv w hc⟩) id, h⟩
  | (i, none) :: pre, Γ, a, w, hp, hc, h => by
    obtain ⟨oi, ho, vi, hv, h⟩ := h
    obtain ⟨h1, h2, h3⟩ := Oper.apart_spec ((hp _ List.mem_cons_self).2 oi ho)
    obtain ⟨v, hn, h⟩ := extract_s hsel j oj hj post pre Γ _ w (fun p hq => hp p (List.mem_cons_of_mem _ hq)) hc h
    refine ⟨v, (Now.put (fun cs b => Region.noSelect_spec hsel j oj cs b hj) _ _ h1).1 hn, oi, ho, vi, ?_, ?_⟩
    · rw [execOp_put (ops := ops) oi (fun cs b => Region.noSelect_spec hsel i oi cs b ho) a oj.dst v h3, wanted_put (ops := ops) oi a oj.dst v h3]
      exact hv
    · rw [← Act.put_comm a vi v h2]
      exact h
  | (i, some m) :: pre, Γ, a, w, hp, hc, h => by
    obtain ⟨oi, ho, hw, ⟨v0, hv0⟩, hg, h⟩ := h
    obtain ⟨h1, h2, h3⟩ := Oper.apart_spec ((hp _ List.mem_cons_self).2 oi ho)
    have hno := (hp _ List.mem_cons_self).1
    have hsj := fun cs b => Region.noSelect_spec hsel j oj cs b hj
    have step : ∀ u, m.sh u → ∃ v, Now P ops oj a w v ∧ wpG P ops Q w0 r (pre ++ post) ((i, m, u) :: Γ) ((a.put oi.dst u).put oj.dst v) := fun u hu => by
      obtain ⟨v, hn, h⟩ := extract_s hsel j oj hj post pre _ _ w (fun p hq => hp p (List.mem_cons_of_mem _ hq)) (hc.sub (Γ := (i, m, u) :: Γ) (fun p hq => by
        rcases List.mem_cons.1 hq with rfl | hq
        · exact .inr hno
        · exact .inl hq)) (h u hu)
      exact ⟨v, (Now.put hsj _ _ h1).1 hn, h⟩
    obtain ⟨v, hn, _⟩ := step v0 hv0
    refine ⟨v, hn, oi, ho, ?_, ⟨v0, hv0⟩, fun w' hc' => ?_, fun u hu => ?_⟩
    · rw [wanted_put (ops := ops) oi a oj.dst v h3]
      exact hw
    · exact (gives_put (ops := ops) (fun cs b => Region.noSelect_spec hsel i oi cs b ho) _ _ h3).2 (hg w' hc')
    · obtain ⟨v', hn', h'⟩ := step u hu
      rw [hn'.uniq hn] at h'
      rw [← Act.put_comm a u v h2]
      exact h'

theorem extract_g (hsel : Region.noSelect ops = true) (j : Nat) (mj : Made) (oj : Oper) (hj : ops[j]? = some oj) (post : List St) : ∀ (pre : List St) (Γ : Ga) (a : Act),
    (∀ p ∈ pre, anc ops ops.size j p.1 = false ∧ ∀ o, ops[p.1]? = some o → o.apart ops oj = true) → wpG P ops Q w0 r (pre ++ (j, some mj) :: post) Γ a →
    Region.wanted oj (yielded ops a.tmps) = true ∧ (∃ v, mj.sh v) ∧ (∀ w, Cls ops w0 Γ j w → gives P oj a w fun v w' => mj.sh v ∧ Below w.heap.size w w' ∧ mj.at w.heap.size v w') ∧
      ∀ v, mj.sh v → wpG P ops Q w0 r (pre ++ post) ((j, mj, v) :: Γ) (a.put oj.dst v)
  | [], Γ, a, _, h => by
    obtain ⟨o, ho, hw, hex, hg, h⟩ := h
    rw [hj] at ho
    obtain rfl : oj = o := by simpa using ho
    exact ⟨hw, hex, hg, h⟩
  | (i, none) :: pre, Γ, a, hp, h => by
    obtain ⟨oi, ho, vi, hv, h⟩ := h
    obtain ⟨h1, h2, h3⟩ := Oper.apart_spec ((hp _ List.mem_cons_self).2 oi ho)
    have hsj := fun cs b => Region.noSelect_spec hsel j oj cs b hj
    obtain ⟨hw, hex, hg, h⟩ := extract_g hsel j mj oj hj post pre Γ _ (fun p hq => hp p (List.mem_cons_of_mem _ hq)) h
    rw [wanted_put (ops := ops) oj a oi.dst vi h1] at hw
    refine ⟨hw, hex, fun w hc => (gives_put (ops := ops) hsj _ _ h1).1 (hg w hc), fun v hv' => ⟨oi, ho, vi, ?_, ?_⟩⟩
    · rw [execOp_put (ops := ops) oi (fun cs b => Region.noSelect_spec hsel i oi cs b ho) a oj.dst v h3, wanted_put (ops := ops) oi a oj.dst v h3]
      exact hv.imp (fun ⟨hw, hv⟩ => ⟨hw, fun w hc => hv w (hc.sub fun p hp => .inl (List.mem_cons_of_mem _ hp))⟩) id
    · rw [← Act.put_comm a vi v h2]
      exact h v hv'
  | (i, some m) :: pre, Γ, a, hp, h => by
    obtain ⟨oi, ho, hw, ⟨v0, hv0⟩, hg, h⟩ := h
    obtain ⟨h1, h2, h3⟩ := Oper.apart_spec ((hp _ List.mem_cons_self).2 oi ho)
    have hno := (hp _ List.mem_cons_self).1
    have hsj := fun cs b => Region.noSelect_spec hsel j oj cs b hj
    have step := fun u hu => extract_g hsel j mj oj hj post pre ((i, m, u) :: Γ) (a.put oi.dst u) (fun p hq => hp p (List.mem_cons_of_mem _ hq)) (h u hu)
    obtain ⟨hwj, hex, hgj, _⟩ := step v0 hv0
    rw [wanted_put (ops := ops) oj a oi.dst v0 h1] at hwj
    refine ⟨hwj, hex, fun w hc => (gives_put (ops := ops) hsj _ _ h1).1 (hgj w (hc.sub (Γ := (i, m, v0) :: Γ) (fun p hq => ?_))), fun v hv' => ⟨oi, ho, ?_, ⟨v0, hv0⟩, fun w' hc' => ?_, fun u hu => ?_⟩⟩
    · rcases List.mem_cons.1 hq with rfl | hq
      · exact .inr hno
      · exact .inl hq
    · rw [wanted_put (ops := ops) oi a oj.dst v h3]
      exact hw
    · exact (gives_put (ops := ops) (fun cs b => Region.noSelect_spec hsel i oi cs b ho) _ _ h3).2 (hg w' (hc'.sub fun p hp => .inl (List.mem_cons_of_mem _ hp)))
    · have h' := (step u hu).2.2.2 v hv'
      rw [← Act.put_comm a u v h2]
      refine wpG_more _ _ _ _ (fun p hp => ?_) h'
      simp only [List.mem_cons] at hp ⊢
      rcases hp with h | h | h
      · exact .inr (.inl h)
      · exact .inl h
      · exact .inr (.inr h)

structure Inv (ops : Array Oper) (r : OT) (L : List Nat) (listed : Array Bool) : Prop where
  closed : ∀ k o, ops[k]? = some o → listed.getD k false = true → ∀ e ∈ o.after, Region.binds .any e = true → listed.getD e.on false = true
  un : ∀ i ∈ L, listed.getD i true = false
  nd : L.Nodup
  pw : L.Pairwise fun i j => anc ops ops.size j i = true ∨ ∀ oi oj, ops[i]? = some oi → ops[j]? = some oj → oi.apart ops oj = true
  cov : ∀ k o, ops[k]? = some o → k ∈ L ∨ listed.getD k true = true ∨ ∀ i ∈ L, anc ops ops.size k i = true
  topo : ∀ i ∈ L, ∀ o, ops[i]? = some o → ∀ e ∈ o.after, Region.binds .any e = true → listed.getD e.on false = true ∨ [e.on, i].Sublist L
  has : ∀ i ∈ L, ∃ o, ops[i]? = some o
  fin : ordOk ops r (L.foldl (fun l i => l.setIfInBounds i true) listed) = true

theorem fold_mid : ∀ (pre post : List Nat) (j : Nat) (l : Array Bool), (pre ++ j :: post).foldl (fun l i => l.setIfInBounds i true) l = (pre ++ post).foldl (fun l i => l.setIfInBounds i true) (l.setIfInBounds j true)
  | [], _, _, _ => rfl
  | i :: pre, post, j, l => by
    simp only [List.cons_append, List.foldl_cons]
    rw [fold_mid pre post j]
    congr 1
    by_cases h : i = j
    · subst h; rfl
    · exact Array.setIfInBounds_comm _ _ h

theorem Inv.step {pre post : List Nat} {j : Nat} {listed : Array Bool} (h : Inv ops r (pre ++ j :: post) listed) (hj : j ∈ Region.ready .any ops listed) : Inv ops r (pre ++ post) (listed.setIfInBounds j true) := by
  obtain ⟨hjun, oj, hoj, hall⟩ := mem_ready.1 hj
  have hsub : (pre ++ post).Sublist (pre ++ j :: post) := (List.Sublist.refl pre).append (List.sublist_cons_self j post)
  have hnd := h.nd
  have hnj : j ∉ pre ++ post := by
    rw [List.nodup_append] at hnd
    simp only [List.nodup_cons, List.mem_append, List.mem_cons] at hnd ⊢
    intro hh
    rcases hh with hh | hh
    · exact hnd.2.2 j hh j (.inl rfl) rfl
    · exact hnd.2.1.1 hh
  have hin : ∀ i, i ∈ pre ++ j :: post → i ≠ j → i ∈ pre ++ post := fun i hi hne => by
    simp only [List.mem_append, List.mem_cons] at hi ⊢
    rcases hi with hi | hi | hi
    · exact .inl hi
    · exact absurd hi hne
    · exact .inr hi
  refine ⟨fun k o ho hk e he hb => ?_, fun i hi => ?_, hnd.sublist hsub, h.pw.sublist hsub, fun k o ho => ?_, fun i hi o ho e he hb => ?_, fun i hi => h.has i (hsub.subset hi), ?_⟩
  · by_cases hkj : j = k
    · subst hkj
      rw [hoj] at ho
      obtain rfl : oj = o := by simpa using ho
      exact getD_set_true (hall e he hb)
    · rw [getD_set_ne false hkj] at hk
      exact getD_set_true (h.closed k o ho hk e he hb)
  · rw [getD_set_ne true (fun e : j = i => hnj (e ▸ hi))]
    exact h.un i (hsub.subset hi)
  · by_cases hkj : j = k
    · subst hkj
      have hlt : j < listed.size := by
        rcases Nat.lt_or_ge j listed.size with h' | h'
        · exact h'
        · simp [Array.getElem?_eq_none h'] at hjun
      exact .inr (.inl (by simp [hlt]))
    · rcases h.cov k o ho with h1 | h1 | h1
      · exact .inl (hin k h1 (Ne.symm hkj))
      · exact .inr (.inl (by rw [getD_set_ne true hkj]; exact h1))
      · exact .inr (.inr fun i hi => h1 i (hsub.subset hi))
  · have hij : i ≠ j := fun e => hnj (e ▸ hi)
    by_cases hej : e.on = j
    · refine .inl ?_
      have hlt : j < listed.size := by
        rcases Nat.lt_or_ge j listed.size with h' | h'
        · exact h'
        · simp [Array.getElem?_eq_none h'] at hjun
      rw [hej]
      simp [hlt]
    · rcases h.topo i (hsub.subset hi) o ho e he hb with h1 | h1
      · exact .inl (getD_set_true h1)
      · refine .inr ?_
        have h2 := h1.filter (fun x => x != j)
        have e1 : [e.on, i].filter (fun x => x != j) = [e.on, i] := by simp [hej, hij]
        have e2 : (pre ++ j :: post).filter (fun x => x != j) = pre ++ post := by
          rw [List.filter_append, List.filter_cons]
          simp only [bne_self_eq_false, Bool.false_eq_true, if_false]
          rw [← List.filter_append]
          exact List.filter_eq_self.2 fun x hx => by simp; exact fun e => hnj (e ▸ hx)
        rw [e1, e2] at h2
        exact h2
  · rw [← fold_mid]
    exact h.fin

theorem wpG_sound (hsel : Region.noSelect ops = true) (hQ : ∀ c a d v w, Q (.panic c) (a.put (some d) v) w → Q (.panic c) a w) : ∀ (n : Nat) (L : List St) (listed : Array Bool) (Γ : Ga) (a : Act) (w : World), L.length = n →
    Inv ops r (L.map (·.1)) listed → Below w0.heap.size w0 w → (∀ p ∈ Γ, p.2.1.at w0.heap.size p.2.2 w) → (∀ p ∈ Γ, ∀ q ∈ Γ, p.1 ≠ q.1 → Dist w0.heap.size w p q) → wpG P ops Q w0 r L Γ a → wpAny P .any ops Q (n + r.len) listed a w := by
  intro n
  induction n with
  | zero =>
    intro L listed Γ a w hn hi hb hg hd h
    obtain rfl : L = [] := List.length_eq_zero_iff.1 hn
    rw [Nat.zero_add]
    exact wpAny_of_held _ _ _ _ (wpOrd_sound hsel hQ r listed a w hi.fin trivial (h w hb hg hd))
  | succ n ih =>
    intro L listed Γ a w hn hi hb hg hd h
    rw [Nat.succ_add]
    refine ⟨fun h0 => ?_, fun j hj => ?_⟩
    · exfalso
      cases L with
      | nil => simp at hn
      | cons p t =>
        obtain ⟨o, ho⟩ := hi.has p.1 (by simp)
        have hr : p.1 ∈ Region.ready .any ops listed := mem_ready.2 ⟨hi.un p.1 (by simp), o, ho, fun e he hbd => by
          rcases hi.topo p.1 (by simp) o ho e he hbd with h1 | h1
          · exact h1
          · exfalso
            have hnd := hi.nd
            simp only [List.map_cons, List.nodup_cons] at hnd h1
            have h2 := h1.length_le
            rcases List.sublist_cons_iff.1 h1 with h3 | ⟨l, h3, h4⟩
            · exact hnd.1 (h3.subset (by simp))
            · have e1 : l = [p.1] := by simpa using (List.cons.inj h3).2.symm
              rw [e1] at h4
              exact hnd.1 (h4.subset (by simp))⟩
        rw [h0] at hr
        cases hr
    · obtain ⟨hjun, oj, hoj, hall⟩ := mem_ready.1 hj
      have hanc : ∀ i ∈ L.map (·.1), anc ops ops.size j i = false := fun i hm => by
        cases h1 : anc ops ops.size j i with
        | false => rfl
        | true =>
          have h2 := anc_listed hi.closed ops.size j i oj hoj hall h1
          have h3 := hi.un i hm
          rcases Nat.lt_or_ge i listed.size with h' | h'
          · simp [h'] at h2 h3; rw [h2] at h3; cases h3
          · simp [Array.getElem?_eq_none h'] at h2
      have hmem : j ∈ L.map (·.1) := by
        rcases hi.cov j oj hoj with h1 | h1 | h1
        · exact h1
        · rw [hjun] at h1; cases h1
        · cases L with
          | nil => simp at hn
          | cons p t =>
            have h2 := h1 p.1 (by simp)
            rw [hanc p.1 (by simp)] at h2
            cases h2
      obtain ⟨⟨j', m⟩, hpm, hje⟩ := List.mem_map.1 hmem
      obtain rfl : j' = j := hje
      obtain ⟨pre, post, rfl⟩ := List.append_of_mem hpm
      simp only [List.map_append, List.map_cons] at hi hanc
      have hap : ∀ p ∈ pre, anc ops ops.size j' p.1 = false ∧ ∀ o, ops[p.1]? = some o → o.apart ops oj = true := fun p hp => by
        have h0 := hanc p.1 (by simp; exact .inl ⟨_, hp⟩)
        refine ⟨h0, fun o ho => ?_⟩
        have h1 := (List.pairwise_append.1 hi.pw).2.2 p.1 (List.mem_map.2 ⟨p, hp, rfl⟩) j' (by simp)
        rcases h1 with h1 | h1
        · rw [h0] at h1; cases h1
        · exact h1 o oj ho hoj
      have hi' := hi.step hj
      have hlen : (pre ++ post).length = n := by simp at hn ⊢; omega
      unfold wpOp
      simp only [hoj]
      cases m with
      | none =>
        obtain ⟨v, hv, h'⟩ := extract_s hsel j' oj hoj post pre Γ a w hap ⟨hb, fun p hp _ => hg p hp⟩ h
        have hrec := ih (pre ++ post) _ Γ _ w hlen (by rw [List.map_append]; exact hi') hb hg hd h'
        rcases hv with ⟨h1, h2⟩ | ⟨h1, rfl⟩
        · simp only [h1, if_true, Oper.wp, h2, Oper.upon]
          exact .inl hrec
        · simp only [h1, Bool.false_eq_true, if_false]
          exact hrec
      | some m =>
        obtain ⟨hw, _, hgv, h'⟩ := extract_g hsel j' m oj hoj post pre Γ a hap h
        simp only [hw, if_true]
        refine .inl (Oper.wp_mono ?_ (gives_wp (hgv w ⟨hb, fun p hp _ => hg p hp⟩)))
        rintro a' w' ⟨v, ⟨hv, hbw, hat⟩, rfl⟩
        refine ih (pre ++ post) _ ((j', m, v) :: Γ) _ w' hlen (by rw [List.map_append]; exact hi') (below_then hb hb.size hbw) (fun p hp => ?_) (fun p hp q hq hne => ?_) (h' v hv)
        · rcases List.mem_cons.1 hp with rfl | hp
          · exact Made.weak hat hb.size
          · exact Made.stable (hg p hp) hbw
        · rcases List.mem_cons.1 hp with rfl | hp
          · rcases List.mem_cons.1 hq with rfl | hq
            · exact absurd rfl hne
            · exact (Dist.new (hg q hq) hb.size hbw hat).1
          · rcases List.mem_cons.1 hq with rfl | hq
            · exact (Dist.new (hg p hp) hb.size hbw hat).2
            · exact (hd p hp q hq hne).stable hbw

def pwB (ops : Array Oper) : List Nat → Bool
  | [] => true
  | i :: t => t.all (fun j => anc ops ops.size j i || match ops[i]?, ops[j]? with | some oi, some oj => oi.apart ops oj | _, _ => true) && pwB ops t
theorem pwB_spec : ∀ {L : List Nat}, pwB ops L = true → L.Pairwise fun i j => anc ops ops.size j i = true ∨ ∀ oi oj, ops[i]? = some oi → ops[j]? = some oj → oi.apart ops oj = true
  | [], _ => List.Pairwise.nil
  | i :: t, h => by
    simp only [pwB, Bool.and_eq_true, List.all_eq_true, Bool.or_eq_true] at h
    refine List.Pairwise.cons (fun j hj => (h.1 j hj).imp id fun h1 oi oj hoi hoj => ?_) (pwB_spec h.2)
    simpa [hoi, hoj] using h1
def statG (ops : Array Oper) (L : List Nat) (r : OT) : Bool :=
  Region.noSelect ops && (decide (L.length + r.len = ops.size) && (decide L.Nodup && (L.all (fun i => decide (i < ops.size)) && (pwB ops L && ((List.range ops.size).all (fun k => L.contains k || L.all fun i => anc ops ops.size k i) &&
    (L.all (fun i => match ops[i]? with | none => true | some o => o.after.all fun e => !Region.binds .any e || decide ([e.on, i].Sublist L)) && ordOk ops r (L.foldl (fun l i => l.setIfInBounds i true) (Array.replicate ops.size false))))))))

/-- The region, from the world behind the draw. -/
theorem wp_region_grow {id : Nat} {a : Act} {w : World} (L : List St) (r : OT) (hm : P.follows .mixedOrders = true) (hs : statG ops (L.map (·.1)) r = true)
    (hQ : ∀ c a d v w, Q (.panic c) (a.put (some d) v) w → Q (.panic c) a w) (h : wpG P ops Q w.drew r L [] a) : (Code.region id ops true).wp P Q a w := by
  simp only [statG, Bool.and_eq_true, decide_eq_true_eq, List.all_eq_true, Bool.or_eq_true, List.mem_range, List.contains_iff_mem] at hs
  obtain ⟨h1, h2, h3, h4, h5, h6, h7, h8⟩ := hs
  refine wp_region_any hm ?_
  rw [← h2, List.length_map]
  refine wpG_sound (w0 := w.drew) h1 hQ L.length L _ [] a w.drew rfl ⟨fun k o ho hk => ?_, fun i hi => ?_, h3, pwB_spec h5, fun k o ho => ?_, fun i hi o ho e he hb => ?_, fun i hi => ?_, ?_⟩ (Below.refl _ _) (by simp) (by simp) h
  · exfalso
    have hlt := (Array.getElem?_eq_some_iff.1 ho).1
    rw [← List.length_map (f := (·.1)), h2] at hk
    simp [hlt] at hk
  · have hlt := h4 i hi
    rw [← List.length_map (f := (·.1)), h2]
    simp [hlt]
  · rcases h6 k (Array.getElem?_eq_some_iff.1 ho).1 with h | h
    · exact .inl h
    · exact .inr (.inr h)
  · have h9 := h7 i hi
    simp only [ho, Array.all_eq_true_iff_forall_mem, Bool.or_eq_true, Bool.not_eq_true', decide_eq_true_eq] at h9
    rcases h9 e he with h | h
    · rw [hb] at h; cases h
    · exact .inr h
  · exact ⟨ops[i]'(h4 i hi), Array.getElem?_eq_getElem (h4 i hi)⟩
  · rw [← List.length_map (f := (·.1)), h2]
    exact h8

/-! ### the steps -/
theorem wpG_nil {Γ : Ga} {a : Act} (h : ∀ w, Below w0.heap.size w0 w → (∀ p ∈ Γ, p.2.1.at w0.heap.size p.2.2 w) → (∀ p ∈ Γ, ∀ q ∈ Γ, p.1 ≠ q.1 → Dist w0.heap.size w p q) → wpOrd P ops Q (fun _ => True) r a w) : wpG P ops Q w0 r [] Γ a := h
theorem wpG_p {i : Nat} {L : List St} {Γ : Ga} {a a' : Act} {o : Oper} {d : Tmp} (ho : ops[i]? = some o) (hw : Region.wanted o (yielded ops a.tmps) = true) (hp : plainOp o.op = true) (hd : o.dst = some d) (hlt : decide (d < a.tmps.size) = true)
    (hv : ∀ (w' : World) (K : Act → World → Prop), K a' w' → o.wp P a w' K (fun _ _ _ => False)) (h : wpG P ops Q w0 r L Γ a') : wpG P ops Q w0 r ((i, none) :: L) Γ a := by
  have hl := of_decide_eq_true hlt
  refine ⟨o, ho, a'.tmps.getD d undef, .inl ⟨hw, fun w' _ => (plain_wp hp hd hl (hv w' _ ⟨rfl, rfl⟩)).1⟩, ?_⟩
  rw [(plain_wp hp hd hl (hv w0 _ ⟨rfl, rfl⟩)).2]
  exact h
theorem wpG_l {i : Nat} {L : List St} {Γ : Ga} {a a' : Act} {o : Oper} {d : Tmp} (ho : ops[i]? = some o) (hw : Region.wanted o (yielded ops a.tmps) = true) (hp : plainOp o.op = true) (hd : o.dst = some d) (hlt : decide (d < a.tmps.size) = true)
    (hv : ∀ (w' : World) (K : Act → World → Prop), Cls ops w0 Γ i w' → K a' w' → o.wp P a w' K (fun _ _ _ => False)) (he : a.put o.dst (a'.tmps.getD d undef) = a') (h : wpG P ops Q w0 r L Γ a') : wpG P ops Q w0 r ((i, none) :: L) Γ a := by
  have hl := of_decide_eq_true hlt
  refine ⟨o, ho, a'.tmps.getD d undef, .inl ⟨hw, fun w' hc => (plain_wp hp hd hl (hv w' _ hc ⟨rfl, rfl⟩)).1⟩, ?_⟩
  rw [he]
  exact h
theorem wpG_skip {i : Nat} {L : List St} {Γ : Ga} {a : Act} {o : Oper} (ho : ops[i]? = some o) (hw : Region.wanted o (yielded ops a.tmps) = false) (hp : a.put o.dst undef = a)
    (h : wpG P ops Q w0 r L Γ a) : wpG P ops Q w0 r ((i, none) :: L) Γ a :=
  ⟨o, ho, undef, .inr ⟨hw, rfl⟩, by rw [hp]; exact h⟩
theorem wpG_g {i : Nat} {L : List St} {Γ : Ga} {a : Act} {o : Oper} {d : Tmp} {m : Made} (ho : ops[i]? = some o) (hw : Region.wanted o (yielded ops a.tmps) = true) (hd : o.dst = some d) (hlt : decide (d < a.tmps.size) = true) (hex : ∃ v, m.sh v)
    (hv : ∀ (w' : World) (K : Act → World → Prop), Cls ops w0 Γ i w' → (∀ v w'', m.sh v → Below w'.heap.size w' w'' → m.at w'.heap.size v w'' → K (a.put o.dst v) w'') → o.wp P a w' K (fun _ _ _ => False))
    (h : ∀ v, m.sh v → wpG P ops Q w0 r L ((i, m, v) :: Γ) (a.put o.dst v)) : wpG P ops Q w0 r ((i, some m) :: L) Γ a :=
  ⟨o, ho, hw, hex, fun w' hc => gives_of hd (of_decide_eq_true hlt) fun K hK => hv w' K hc fun v w'' h1 h2 h3 => hK v w'' ⟨h1, h2, h3⟩, h⟩
theorem Cls.old {Γ : Ga} {j : Nat} {w : World} (h : Cls ops w0 Γ j w) (b o : Nat) (hb : b < w0.heap.size) : w.cell? ⟨b, o, none⟩ = w0.cell? ⟨b, o, none⟩ :=
  World.cell?_of_block (w := w0) (h.1.block b hb)
end
theorem below_setRow {B : Nat} {w W : World} (h : Below B w W) (g : Nat) (cs : Array Value) (hB : B ≤ g) : Below B w (W.setRow g cs) :=
  ⟨h.os, h.tape, h.output, by rw [size_setRow]; exact h.size, fun i hi => (setRow_other W g i cs (by omega)).trans (h.block i hi)⟩
theorem Cls.get {ops : Array Oper} {w0 : World} {Γ : Ga} {j : Nat} {w : World} (h : Cls ops w0 Γ j w) (i : Nat) {p : Nat × Made × Value} (hp : Γ.find? (fun p => p.1 == i) = some p) (ha : anc ops ops.size j p.1 = true) : p.2.1.at w0.heap.size p.2.2 w :=
  h.2 p (List.mem_of_find?_eq_some hp) ha
attribute [irreducible] wpG
end Go.Proofs.Ytiadenokcpnliaa.T3
