/- chapter 12: Push of the stack, and what replaces operands. -/
import Derived.Test.YtiadenokcpnliaaStA
import Derived.WalkKit
import Derived.Lib.Hide
import Derived.Deep.QuietTactic
import Derived.BigQuiet
import Derived.Lib.QuietBelow
import Derived.Deep.RegionHeld3
import Derived.WalkLawsBesides
import Derived.WalkSpells
import Derived.Outline
import Derived.Deep.DeepFit
import Derived.Maps.AppendAt
import Derived.Deep.AppendLies
import Derived.Deep.CutRange
import Derived.Laws.AppendOwn
import Derived.OpenShut
namespace Go.Proofs.Ytiadenokcpnliaa.T3
set_option linter.unusedSimpArgs false
set_option linter.unusedVariables false
open Go.RowKit
attribute [local go_sem] Oper.semAt_some
set_option maxHeartbeats 4000000
set_option maxRecDepth 100000

theorem z43 : (Try.prog.info? 43).map (fun i => (i.size, i.bytes)) = some (7, 64) := by kernel_rfl
theorem ul22 : Try.prog.underlying 22 = some (.slice 43) := by kernel_rfl
def flat (L : List Ob) : List Value := (L.map Ob.cs).flatten
theorem flat_len (L : List Ob) : (flat L).length = L.length * 7 := by
  induction L with
  | nil => rfl
  | cons a t ih => simp only [flat, List.map_cons, List.flatten_cons, List.length_append] at ih ⊢; rw [ih, Ob.cs_len, List.length_cons]; omega
theorem flat_app (L M : List Ob) : flat (L ++ M) = flat L ++ flat M := by simp [flat]
theorem flat_get : ∀ (L : List Ob) (i : Nat) (es : List Value), (L.map Ob.cs)[i]? = some es → ∀ j u, es[j]? = some u → (flat L)[i * 7 + j]? = some u
  | [], i, es, h, j, u, hj => by simp at h
  | a :: t, 0, es, h, j, u, hj => by
    simp at h
    subst h
    have hjl : j < a.cs.length := by
      rcases Nat.lt_or_ge j a.cs.length with h | h
      · exact h
      · rw [List.getElem?_eq_none h] at hj; cases hj
    simp only [flat, List.map_cons, List.flatten_cons, Nat.zero_mul, Nat.zero_add]
    rw [List.getElem?_append_left hjl]
    exact hj
  | a :: t, i + 1, es, h, j, u, hj => by
    have ih := flat_get t i es (by simpa using h) j u hj
    simp only [flat, List.map_cons, List.flatten_cons] at ih ⊢
    rw [List.getElem?_append_right (by rw [Ob.cs_len]; omega), Ob.cs_len, show (i + 1) * 7 + j - 7 = i * 7 + j by omega]
    exact ih
theorem flat_at : ∀ (L : List Ob) (q : Nat) (u : Value), (flat L)[q]? = some u → ∃ es, (L.map Ob.cs)[q / 7]? = some es ∧ es[q % 7]? = some u
  | [], q, u, h => by simp [flat] at h
  | a :: t, q, u, h => by
    simp only [flat, List.map_cons, List.flatten_cons] at h
    rcases Nat.lt_or_ge q 7 with hq | hq
    · rw [List.getElem?_append_left (by rw [Ob.cs_len]; exact hq)] at h
      refine ⟨a.cs, ?_, ?_⟩
      · rw [Nat.div_eq_of_lt hq]; rfl
      · rw [Nat.mod_eq_of_lt hq]; exact h
    · rw [List.getElem?_append_right (by rw [Ob.cs_len]; exact hq), Ob.cs_len] at h
      obtain ⟨es, h1, h2⟩ := flat_at t (q - 7) u h
      refine ⟨es, ?_, ?_⟩
      · rw [show q / 7 = (q - 7) / 7 + 1 by omega]; simpa using h1
      · rw [show q % 7 = (q - 7) % 7 by omega]; exact h2
theorem flat_one (L : List Ob) : ∀ u ∈ flat L, u.oneCell' = true := by
  intro u hu
  obtain ⟨es, hes, hu⟩ := List.mem_flatten.1 hu
  obtain ⟨x, _, rfl⟩ := List.mem_map.1 hes
  simp only [Ob.cs, List.mem_cons, List.not_mem_nil, or_false] at hu
  rcases hu with rfl | rfl | rfl | rfl | rfl | rfl | rfl <;> rfl
/-- a row that begins with these objects -/
theorem Obs.of_row {A : Nat → Prop} {w : World} {g : Nat} {cur : Array Value} {t : TypeId} {fr : Nat × Nat} {L : List Ob} (h : w.heap[g]? = some (.cells cur t fr)) (hc : ∀ (q : Nat) (u : Value), (flat L)[q]? = some u → cur[q]? = some u) (hA : A g) : Obs A w (some ⟨g, 0, none⟩) L := by
  refine .inr ⟨g, 0, rfl, hA, rw_lt h, fun i es hi j u hj => ?_⟩
  rw [cell_of_row w g _ _ _ _ h, show 0 + i * 7 + j = i * 7 + j by omega]
  exact hc _ _ (flat_get L i es hi j u hj)
theorem Obs.cell {A : Nat → Prop} {w : World} {x : Addr} {L : List Ob} (h : Obs A w (some x) L) : ∀ q u, (flat L)[q]? = some u → w.cell? (x.add q) = some u := by
  intro q u hq
  rcases h with h | ⟨b, o, hx, _, _, hc⟩
  · subst h
    simp [flat] at hq
  · cases hx
    obtain ⟨es, h1, h2⟩ := flat_at L q u hq
    have := hc _ es h1 _ u h2
    have e := add_add b o q 0
    rw [show o + q / 7 * 7 + q % 7 = o + q + 0 by omega, ← e] at this
    simpa [Addr.add] using this
theorem Obs.some_of {A : Nat → Prop} {w : World} {x : Option Addr} {L : List Ob} (h : Obs A w x L) (hL : 0 < L.length) : ∃ b o, x = some ⟨b, o, none⟩ := by
  rcases h with h | ⟨b, o, hx, _⟩
  · subst h
    simp at hL
  · exact ⟨b, o, hx⟩
/-- append to a slice without room -/
theorem push_run {A : Nat → Prop} (w : World) (x y : Option Addr) (L M : List Ob) (n m c : Nat) (hL : L.length = n) (hM : M.length = m) (hx : Obs A w x L) (hy : Obs A w y M) (hxn : x = none → n = 0) (hnm : n + m ≤ 1000) :
    ∃ (z : Option Addr) (cap : Nat) (W : World), (∀ ty, (Builtin.append_ #[22, 22] ty #[.slice x n n, .slice y m c]).run Try.prog w = .ok (.slice z (n + m) cap) W) ∧ Below w.heap.size w W ∧ Obs (fun b => A b ∨ w.heap.size ≤ b) W z (L ++ M) ∧ n + m ≤ cap ∧ cap ≤ maxLen := by
  have hinfo := z43
  cases hi : Try.prog.info? 43 with
  | none => rw [hi] at hinfo; simp at hinfo
  | some i =>
    rw [hi] at hinfo
    simp only [Option.map_some, Option.some.injEq, Prod.mk.injEq] at hinfo
    obtain ⟨hsz, hby⟩ := hinfo
    have hz0 : (Try.prog.info? 43).map (·.zero.isSome) = some true := by kernel_rfl
    rw [hi] at hz0
    obtain ⟨z, hz⟩ : ∃ z, i.zero = some z := by
      cases h : i.zero with
      | none => simp [h] at hz0
      | some z => exact ⟨z, rfl⟩
    rcases Nat.eq_zero_or_pos m with h0 | h0
    · subst h0
      have : M = [] := List.eq_nil_of_length_eq_zero hM
      subst this
      refine ⟨x, n, w, fun ty => ?_, Below.refl _ _, by simpa using hx.mono (fun b _ h => .inl h), by omega, by unfold maxLen; omega⟩
      cases x <;> cases y <;> simp [Builtin.append_, run_underlying ul22, sizeOf, typeInfo, hi, Builtin.lenOf, Builtin.firstCells, loadCells, loadCellsFrom, storeCells]
    · obtain ⟨b, o, rfl⟩ := hy.some_of (by omega)
      have hnews : ∀ j v, (flat M)[j]? = some v → w.cell? ((⟨b, o, none⟩ : Addr).add j) = some v := fun j v hj => hy.cell j v hj
      cases x with
      | none =>
        have hn0 := hxn rfl
        subst hn0
        have : L = [] := List.eq_nil_of_length_eq_zero hL
        subst this
        have hr := fun ty => run_append_nil (P := Try.prog) w 22 ty 43 i z ul22 hi hz ⟨b, o, none⟩ m c (flat M) (by rw [flat_len, hM, hsz]) hnews h0 (by omega) (by rw [hby]; omega)
        refine ⟨_, _, _, fun ty => by simpa using hr ty, (Below.drew (Below.refl _ w)).alloc (Nat.le_refl _) _, ?_, ?_, ?_⟩
        · refine Obs.of_row (heap_alloc_new w.drew _) (fun q u hq => ?_) (.inr (Nat.le_refl _))
          have hql : q < (flat M).length := by
            rcases Nat.lt_or_ge q (flat M).length with h | h
            · exact h
            · rw [List.nil_append, List.getElem?_eq_none h] at hq; cases hq
          rw [Array.getElem?_append_left (by simpa using hql)]
          simpa using hq
        · rw [Nat.zero_add]; exact grownCap_ge _ _ _ _
        · exact grownCap_le_maxLen _ _ _ _ (by unfold maxLen; omega)
      | some a =>
        have hr := fun ty => run_append_grow (P := Try.prog) w 22 ty 43 i z ul22 hi hz a n n (flat L) (by rw [flat_len, hL, hsz]) (fun j v hj => hx.cell j v hj) ⟨b, o, none⟩ m c (flat M) (by rw [flat_len, hM, hsz]) hnews (by omega) (by omega) (growslice_fits (by omega) (by rw [hby]; omega))
        refine ⟨_, _, _, hr, (Below.drew (Below.refl _ w)).alloc (Nat.le_refl _) _, ?_, ?_, ?_⟩
        · refine Obs.of_row (heap_alloc_new w.drew _) (fun q u hq => ?_) (.inr (Nat.le_refl _))
          rw [flat_app] at hq
          have hql : q < (flat L ++ flat M).length := by
            rcases Nat.lt_or_ge q (flat L ++ flat M).length with h | h
            · exact h
            · rw [List.getElem?_eq_none h] at hq; cases hq
          rw [Array.getElem?_append_left (by simpa using hql)]
          simpa using hq
        · exact grownCap_ge _ _ _ _
        · exact grownCap_le_maxLen _ _ _ _ (by unfold maxLen; omega)
/-- append, by an equation of its run -/
theorem wp_append_eq {o : Oper} {a : Act} {w : World} {K : Act → World → Prop} {Q : Exit → Act → World → Prop} (s x : Operand) (t : TypeId) (ho : o.op = .call { callee := .builtin .append, args := #[s, x], argTypes := #[t, t] })
    {v u r : Value} {W : World} (hs : a.eval s = v) (hx : a.eval x = u) (hr : (Builtin.append_ #[t, t] o.type #[v, u]).run Try.prog w = .ok r W) (h : K (a.put o.dst r) W) : o.wp Try.prog a w K Q := by
  unfold Oper.wp execOp
  simp only [ho, resolve, invoke, builtin, Sem.run_bind, Sem.run_pure, Result.andThen_ok, List.map_toArray, List.map_cons, List.map_nil, hs, hx, hr]
  exact h
theorem wpList_append_eq {ops : Array Oper} {rest : List Oper} {o : Oper} {a : Act} {w : World} {Q : Exit → Act → World → Prop} (hgd : o.guard = none) (s x : Operand) (t : TypeId) (ho : o.op = .call { callee := .builtin .append, args := #[s, x], argTypes := #[t, t] })
    {v u r : Value} {W : World} (hs : a.eval s = v) (hx : a.eval x = u) (hr : (Builtin.append_ #[t, t] o.type #[v, u]).run Try.prog w = .ok r W) (h : wpList Try.prog ops Q rest (a.put o.dst r) W) : wpList Try.prog ops Q (o :: rest) a w :=
  wpList_plain hgd fun _ hK => wp_append_eq s x t ho hs hx hr (hK _ _ h)
end Go.Proofs.Ytiadenokcpnliaa.T3
