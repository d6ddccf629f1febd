/- What an argument that came in holds, opened step by step: structs, arrays, slices of structs; the world is the one that the call began in. -/
import Derived.Test.YtiadenokcpnliaaBase
import Derived.ChangeArms
import Derived.OpenShut
import Derived.ChangeOld
import Derived.Below
namespace Go.Proofs.Ytiadenokcpnliaa
set_option linter.unusedSimpArgs false
set_option linter.unusedVariables false
open Go.RowKit
set_option maxHeartbeats 1000000
/-- these cells read as a value of the type -/
def Rd (P : Program) (W : World) (t : TypeId) (cs : List Value) : Prop := ∃ (H : Type) (enc : TypeId × Value → H) (fuel : Nat) (x : DataW H × List MemPlace), DataW.trod enc P W 0 (fun _ => true) true fuel t cs = some x
theorem Rd.of {H : Type} {enc : TypeId × Value → H} {P : Program} {W : World} {t : TypeId} {v : Value} {d : DataW H} {ps : List MemPlace} (h : DataW.Trod enc P W 0 (fun _ => true) true t v d ps) : Rd P W t v.cells.toList := by
  obtain ⟨f, hf⟩ := h
  exact ⟨H, enc, f, _, hf⟩
theorem Rd.int {P : Program} {W : World} {t : TypeId} {k : IntKind} {cs : List Value} (ht : P.underlying t = some (.int k)) (h : Rd P W t cs) : ∃ n, cs = [.int k n] ∧ (Lit.int k n).wf = true := by
  obtain ⟨H, enc, f, x, hf⟩ := h
  obtain ⟨n, h1, _, h2⟩ := DataW.trod_int ht hf
  exact ⟨n, h1, h2⟩
theorem Rd.bool {P : Program} {W : World} {t : TypeId} {cs : List Value} (ht : P.underlying t = some .bool) (h : Rd P W t cs) : ∃ b, cs = [.bool b] := by
  obtain ⟨H, enc, f, x, hf⟩ := h
  obtain ⟨n, h1, _⟩ := DataW.trod_bool ht hf
  exact ⟨n, h1⟩
theorem Rd.string {P : Program} {W : World} {t : TypeId} {cs : List Value} (ht : P.underlying t = some .string) (h : Rd P W t cs) : ∃ s : ByteArray, cs = [.string s] ∧ s.size ≤ maxLen := by
  obtain ⟨H, enc, f, x, hf⟩ := h
  obtain ⟨n, h1, _, h2⟩ := DataW.trod_string ht hf
  exact ⟨n, h1, h2⟩
theorem Rd.field {P : Program} {W : World} {t : TypeId} {fs : Array Field} {cs : List Value} (ht : P.underlying t = some (.struct fs)) (h : Rd P W t cs) : cs.length = P.cellsOf t ∧ ∀ (i : Nat) (f : Field), fs[i]? = some f → Rd P W f.type ((cs.drop f.offset).take (P.cellsOf f.type)) := by
  obtain ⟨H, enc, f, x, hf⟩ := h
  obtain ⟨xs, n, _, _, hl, hxl, hx⟩ := DataW.trod_struct ht hf
  refine ⟨hl, fun i f hfi => ?_⟩
  have h1 := hx i f hfi
  have hi : i < xs.length := by
    rw [hxl]
    rcases Nat.lt_or_ge i fs.size with h | h
    · exact h
    · rw [Array.getElem?_eq_none h] at hfi; cases hfi
  rw [List.getElem?_eq_getElem hi] at h1
  exact ⟨H, enc, n, _, h1⟩
theorem Rd.elem {P : Program} {W : World} {t e : TypeId} {n : Nat} {cs : List Value} (ht : P.underlying t = some (.array n e)) (h : Rd P W t cs) : cs.length = P.cellsOf t ∧ ∀ i, i < n → Rd P W e ((cs.drop (i * P.cellsOf e)).take (P.cellsOf e)) := by
  obtain ⟨H, enc, f, x, hf⟩ := h
  obtain ⟨xs, m, _, _, hl, hxl, hx⟩ := DataW.trod_array ht hf
  refine ⟨hl, fun i hi => ?_⟩
  have h1 := hx i hi
  rw [List.getElem?_eq_getElem (by omega)] at h1
  exact ⟨H, enc, m, _, h1⟩
/-- a row of elements of c cells each -/
def Els (w : World) (x : Option Addr) (c : Nat) (L : List (List Value)) : Prop :=
  L = [] ∨ ∃ b off, x = some ⟨b, off, none⟩ ∧ b < w.heap.size ∧ ∀ i es, L[i]? = some es → ∀ j u, es[j]? = some u → w.cell? ⟨b, off + i * c + j, none⟩ = some u
theorem Els.below {w w' : World} {B : Nat} {x : Option Addr} {c : Nat} {L : List (List Value)} (h : Els w x c L) (hb : Below B w w') (hB : w.heap.size ≤ B) : Els w' x c L := by
  rcases h with h | ⟨b, o, h1, h2, h3⟩
  · exact .inl h
  · refine .inr ⟨b, o, h1, Nat.lt_of_lt_of_le h2 hb.size, fun i es hi j u hj => ?_⟩
    exact (hb.cell (p := ⟨b, o + i * c + j, none⟩) (by show b < B; omega)).trans (h3 i es hi j u hj)
theorem cells_at {W : World} {a : Addr} {n : Nat} {es : List Value} (h : W.cells? 0 a n = some es) : es.length = n ∧ ∀ j u, es[j]? = some u → W.cell? (a.add j) = some u := by
  unfold World.cells? at h
  rw [if_pos (Nat.zero_le _)] at h
  have hl : es.length = n := by simpa using mapM_some_length h
  refine ⟨hl, fun j u hj => ?_⟩
  have hjl : j < es.length := by
    rcases Nat.lt_or_ge j es.length with h | h
    · exact h
    · rw [List.getElem?_eq_none h] at hj; cases hj
  have := mapM_some_get h j j (show (List.range n)[j]? = some j by rw [List.getElem?_range (by omega)])
  rw [hj] at this
  exact this
theorem add_add (b o : Nat) (i j : Nat) : ((⟨b, o, none⟩ : Addr).add i).add j = ⟨b, o + i + j, none⟩ := by
  unfold Addr.add
  split <;> split <;> simp_all
theorem Rd.slice {P : Program} {W : World} {t e : TypeId} {c : Nat} {cs : List Value} (ht : P.underlying t = some (.slice e)) (hc : P.cellsOf e = c) (hc0 : 0 < c) (h : Rd P W t cs) :
    ∃ (x : Option Addr) (len cap : Nat) (L : List (List Value)), cs = [.slice x len cap] ∧ L.length = len ∧ len ≤ cap ∧ cap ≤ maxLen ∧ (x = none → len = 0 ∧ cap = 0) ∧ Els W x c L ∧ ∀ es ∈ L, es.length = c ∧ Rd P W e es := by
  obtain ⟨H, enc, f, y, hf⟩ := h
  rcases DataW.trod_slice ht hf with ⟨h1, _⟩ | ⟨a, len, cap, elems, rest, n, _, h1, _, _, hl, hm, hel, hx, _⟩
  · exact ⟨none, 0, 0, [], h1, rfl, Nat.le_refl _, by decide, fun _ => ⟨rfl, rfl⟩, .inl rfl, by simp⟩
  · rw [hc] at hx
    have hg : ∀ i, i < len → ∃ es : List Value, (es.length = c ∧ ∀ j u, es[j]? = some u → W.cell? ((a.add (i * c)).add j) = some u) ∧ Rd P W e es := by
      intro i hi
      have h2 := hx i hi
      rw [List.getElem?_eq_getElem (by omega)] at h2
      obtain ⟨es, h3, h4⟩ := Option.bind_eq_some_iff.1 h2
      exact ⟨es, cells_at h3, H, enc, n, _, h4⟩
    have hex : ∃ L : List (List Value), L.length = len ∧ ∀ i es, L[i]? = some es → (es.length = c ∧ ∀ j u, es[j]? = some u → W.cell? ((a.add (i * c)).add j) = some u) ∧ Rd P W e es := by
      refine ⟨(List.range len).map fun i => if hi : i < len then (hg i hi).choose else [], by simp, fun i es hi => ?_⟩
      have hil : i < len := by
        rcases Nat.lt_or_ge i len with h | h
        · exact h
        · rw [List.getElem?_eq_none (by simpa using h)] at hi; cases hi
      simp [hil] at hi
      subst hi
      exact (hg i hil).choose_spec
    obtain ⟨L, hL, hLs⟩ := hex
    refine ⟨some a, len, cap, L, h1, hL, hl, hm, fun h => by simp at h, ?_, fun es hes => ?_⟩
    · rcases Nat.eq_zero_or_pos len with h0 | h0
      · left; exact List.eq_nil_of_length_eq_zero (by omega)
      · right
        have hL0 : 0 < L.length := by omega
        have h00 := hLs 0 (L[0]'hL0) (List.getElem?_eq_getElem hL0)
        obtain ⟨u, hu⟩ : ∃ u, (L[0]'hL0)[0]? = some u := ⟨_, List.getElem?_eq_getElem (by rw [h00.1.1]; exact hc0)⟩
        have hc00 := h00.1.2 0 u hu
        rw [Nat.zero_mul] at hc00
        obtain ⟨b, off, spot⟩ := a
        have hspot : spot = none := by simpa [Addr.add] using World.cell?_spot hc00
        subst hspot
        refine ⟨b, off, rfl, ?_, fun i es hi j v hj => ?_⟩
        · have := block_lt_of_cell (a := ⟨b, off, none⟩) (by simpa [Addr.add] using hc00)
          exact this
        · have := (hLs i es hi).1.2 j v hj
          rwa [add_add] at this
    · obtain ⟨i, hi, rfl⟩ := List.getElem_of_mem hes
      exact ⟨(hLs i _ (List.getElem?_eq_getElem hi)).1.1, (hLs i _ (List.getElem?_eq_getElem hi)).2⟩
end Go.Proofs.Ytiadenokcpnliaa
