/- Which kind of value a cell of an argument holds: read off the type by counting. -/
import Derived.Test.YtiadenokcpnliaaRd
namespace Go.Proofs.Ytiadenokcpnliaa
set_option linter.unusedSimpArgs false
set_option linter.unusedVariables false
open Go.RowKit
set_option maxHeartbeats 1000000
/-- the kind of the k-th cell of a type: whole numbers, truth, texts, slices -/
def descAt (P : Program) : Nat → TypeId → Nat → Option TypeDesc
  | 0, _, _ => none
  | d + 1, t, k => match P.underlying t with
    | some (.struct fs) => (fs.toList.find? fun f => decide (f.offset ≤ k) && decide (k < f.offset + P.cellsOf f.type)).bind fun f => descAt P d f.type (k - f.offset)
    | some (.array n e) => if k / P.cellsOf e < n ∧ 0 < P.cellsOf e then descAt P d e (k % P.cellsOf e) else none
    | some (.int κ) => if k = 0 then some (.int κ) else none
    | some .bool => if k = 0 then some .bool else none
    | some .string => if k = 0 then some .string else none
    | some (.slice e) => if k = 0 then some (.slice e) else none
    | _ => none
theorem take_get {α : Type} {cs : List α} {o s j : Nat} {v : α} (h : ((cs.drop o).take s)[j]? = some v) : cs[o + j]? = some v := by
  rw [List.getElem?_take] at h
  split at h
  · rwa [List.getElem?_drop] at h
  · cases h
theorem Rd.at {P : Program} {W : World} {D : TypeDesc} : ∀ (d : Nat) (t : TypeId) (k : Nat) (cs : List Value), descAt P d t k = some D → Rd P W t cs → ∃ u v, P.underlying u = some D ∧ cs[k]? = some v ∧ Rd P W u [v] := by
  intro d
  induction d with
  | zero => intro t k cs h; cases h
  | succ d ih =>
    intro t k cs h hr
    rw [descAt] at h
    split at h
    · rename_i fs hu
      obtain ⟨f, hf, h2⟩ := Option.bind_eq_some_iff.1 h
      obtain ⟨_, hfr⟩ := Rd.field hu hr
      have hp := List.find?_some hf
      simp only [Bool.and_eq_true, decide_eq_true_eq] at hp
      have hmem := List.mem_of_find?_eq_some hf
      obtain ⟨i, hi, hfi⟩ := List.getElem_of_mem hmem
      obtain ⟨u, v, e1, e2, e3⟩ := ih _ _ _ h2 (hfr i f (by rw [← hfi]; simp at hi ⊢))
      have := take_get e2
      rw [show f.offset + (k - f.offset) = k by omega] at this
      exact ⟨u, v, e1, this, e3⟩
    · rename_i n e hu
      split at h
      · rename_i hc
        obtain ⟨_, hfr⟩ := Rd.elem hu hr
        obtain ⟨u, v, e1, e2, e3⟩ := ih _ _ _ h (hfr _ hc.1)
        have := take_get e2
        rw [Nat.mul_comm, Nat.div_add_mod] at this
        exact ⟨u, v, e1, this, e3⟩
      · cases h
    · rename_i κ hu
      split at h
      · rename_i hk
        cases h
        obtain ⟨n, rfl, _⟩ := Rd.int hu hr
        exact ⟨t, _, hu, by rw [hk]; rfl, hr⟩
      · cases h
    · rename_i hu
      split at h
      · rename_i hk
        cases h
        obtain ⟨n, rfl⟩ := Rd.bool hu hr
        exact ⟨t, _, hu, by rw [hk]; rfl, hr⟩
      · cases h
    · rename_i hu
      split at h
      · rename_i hk
        cases h
        obtain ⟨n, rfl, _⟩ := Rd.string hu hr
        exact ⟨t, _, hu, by rw [hk]; rfl, hr⟩
      · cases h
    · rename_i e hu
      split at h
      · rename_i hk
        cases h
        obtain ⟨H, enc, f, y, hf⟩ := id hr
        rcases DataW.trod_slice hu hf with ⟨rfl, _⟩ | ⟨a, len, cap, elems, rest, n, _, rfl, _⟩
        · exact ⟨t, _, hu, by rw [hk]; rfl, hr⟩
        · exact ⟨t, _, hu, by rw [hk]; rfl, hr⟩
      · cases h
    · cases h
theorem Rd.int_at {P : Program} {W : World} {κ : IntKind} {t : TypeId} {cs : List Value} (k : Nat) (h : descAt P 8 t k = some (.int κ)) (hr : Rd P W t cs) : ∃ n, cs[k]? = some (.int κ n) ∧ (Lit.int κ n).wf = true := by
  obtain ⟨u, v, h1, h2, h3⟩ := Rd.at _ _ _ _ h hr
  obtain ⟨n, e, hw⟩ := Rd.int h1 h3
  simp at e
  subst e
  exact ⟨n, h2, hw⟩
theorem Rd.bool_at {P : Program} {W : World} {t : TypeId} {cs : List Value} (k : Nat) (h : descAt P 8 t k = some .bool) (hr : Rd P W t cs) : ∃ n, cs[k]? = some (.bool n) := by
  obtain ⟨u, v, h1, h2, h3⟩ := Rd.at _ _ _ _ h hr
  obtain ⟨n, e⟩ := Rd.bool h1 h3
  simp at e
  subst e
  exact ⟨n, h2⟩
theorem Rd.string_at {P : Program} {W : World} {t : TypeId} {cs : List Value} (k : Nat) (h : descAt P 8 t k = some .string) (hr : Rd P W t cs) : ∃ n, cs[k]? = some (.string n) ∧ n.size ≤ maxLen := by
  obtain ⟨u, v, h1, h2, h3⟩ := Rd.at _ _ _ _ h hr
  obtain ⟨n, e, hw⟩ := Rd.string h1 h3
  simp at e
  subst e
  exact ⟨n, h2, hw⟩
def isSl : Option TypeDesc → Bool
  | some (.slice _) => true
  | _ => false
theorem Rd.slice_any {P : Program} {W : World} {t : TypeId} {cs : List Value} (k : Nat) (h : isSl (descAt P 8 t k) = true) (hr : Rd P W t cs) : ∃ x l c, cs[k]? = some (.slice x l c) := by
  obtain ⟨e, h⟩ : ∃ e, descAt P 8 t k = some (.slice e) := by
    unfold isSl at h
    split at h
    · exact ⟨_, by assumption⟩
    · cases h
  obtain ⟨u, v, h1, h2, h3⟩ := Rd.at _ _ _ _ h hr
  obtain ⟨H, enc, f, y, hf⟩ := h3
  rcases DataW.trod_slice h1 hf with ⟨e, _⟩ | ⟨a, len, cap, elems, rest, n, _, e, _⟩ <;> (simp at e; subst e; exact ⟨_, _, _, h2⟩)
theorem Rd.slice_at {P : Program} {W : World} {e t : TypeId} {c : Nat} {cs : List Value} (k : Nat) (h : descAt P 8 t k = some (.slice e)) (hc : P.cellsOf e = c) (hc0 : 0 < c) (hr : Rd P W t cs) :
    ∃ (x : Option Addr) (len cap : Nat) (L : List (List Value)), cs[k]? = some (.slice x len cap) ∧ L.length = len ∧ len ≤ cap ∧ cap ≤ maxLen ∧ (x = none → len = 0 ∧ cap = 0) ∧ Els W x c L ∧ ∀ es ∈ L, es.length = c ∧ Rd P W e es := by
  obtain ⟨u, v, h1, h2, h3⟩ := Rd.at _ _ _ _ h hr
  obtain ⟨x, len, cap, L, e, h4⟩ := Rd.slice h1 hc hc0 h3
  simp at e
  subst e
  exact ⟨x, len, cap, L, h2, h4⟩
theorem cell_one {P : Program} {w : World} {r : Reach} {base : Nat} {t : TypeId} {u : Value} (h : Cell.okWide P w r base t u) : u.oneCell' = true := by
  cases u <;> first
    | rfl
    | (exfalso; unfold Cell.okWide Cell.ok at h; split at h <;> simp_all; done)
    | (exfalso; unfold Cell.okWide Cell.ok at h; split at h <;> first | (simp_all; done) | (split at h <;> simp_all))
theorem row_one {P : Program} {w : World} {r : Reach} {base : Nat} {t : TypeId} {cs : Array Value} (h : Row.okWide P w r base t cs) : ∀ u ∈ cs.toList, u.oneCell' = true := by
  intro u hu
  obtain ⟨ts, _, _, h3⟩ := h
  obtain ⟨i, hi, rfl⟩ := List.getElem_of_mem hu
  obtain ⟨t', _, h4⟩ := h3 i cs.toList[i] (by simp at hi ⊢)
  exact cell_one h4
end Go.Proofs.Ytiadenokcpnliaa
