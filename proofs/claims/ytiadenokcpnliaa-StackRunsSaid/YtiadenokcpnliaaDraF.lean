/- Rows of octets as functions of their place: what a store makes of them, and the string that they spell. -/
import Derived.Test.YtiadenokcpnliaaBase
import Derived.Lib.SlBytesRow
import Derived.Laws.MakeOwn
import Derived.Laws.Rows
import Derived.OpenShut
import Derived.WalkKit
import Derived.Lib.Hide
import Derived.Deep.QuietTactic
import Derived.BigQuiet
import Derived.Lib.QuietBelow
import Derived.Deep.RegionHeld3
import Derived.WalkLawsBesides
import Derived.WalkSpells
import Derived.Outline
import Derived.Deep.DeepFit
import Derived.Maps.AppendAt
import Derived.Deep.AppendLies
namespace Go.Proofs.Ytiadenokcpnliaa
set_option linter.unusedSimpArgs false
set_option linter.unusedVariables false
open Go.RowKit

def rowU (L : Nat) (f : Nat → Int) : Array Value := (Array.range L).map fun j => .int .u8 (f j)
theorem rowU_size (L : Nat) (f : Nat → Int) : (rowU L f).size = L := by simp [rowU]
theorem rowU_made (L : Nat) : madeCells #[.int .u8 0] L = rowU L fun _ => 0 := by
  unfold madeCells rowU
  apply Array.ext
  · simp
  · intro i h1 h2
    simp [Nat.mod_one]
theorem rowU_get {L : Nat} {f : Nat → Int} {k : Nat} (h : k < L) : (rowU L f)[k]? = some (.int .u8 (f k)) := by
  simp [rowU, h]
theorem rowU_set (L : Nat) (f : Nat → Int) (k : Nat) (v : Int) : (rowU L f).setIfInBounds k (.int .u8 v) = rowU L fun j => if j = k then v else f j := by
  unfold rowU
  apply Array.ext_getElem?
  intro i
  rw [Array.getElem?_setIfInBounds]
  by_cases h : k = i
  · subst h
    by_cases hk : k < L <;> simp [hk]
  · by_cases hi : i < L <;> simp [h, Ne.symm h, hi]
def strU (L : Nat) (f : Nat → Int) : ByteArray := ⟨(Array.range L).map fun j => UInt8.ofNat (f j).toNat⟩
theorem strU_size (L : Nat) (f : Nat → Int) : (strU L f).size = L := by simp [strU, ByteArray.size]
theorem strU_bytes {w : World} {b : Nat} {t : TypeId} {L : Nat} {f : Nat → Int} (hf : ∀ j, 0 ≤ f j ∧ f j ≤ 255) (h : w.heap[b]? = some (.cells (rowU L f) t (0, 0))) : Lib.Bytes w b 0 (strU L f) := by
  intro i hi
  have hl : i < L := by rw [strU_size] at hi; exact hi
  rw [Nat.zero_add, cell_of_row w b i _ _ _ h, rowU_get hl]
  have h1 := hf i
  have h2 : (f i).toNat % 256 = (f i).toNat := Nat.mod_eq_of_lt (by omega)
  have h3 : ((f i).toNat : Int) = f i := by omega
  simp [strU, ByteArray.getElem_eq_getElem_data, h2, h3]
theorem make_u8 (L : Nat) (hL : L ≤ 16777216) (w : World) : Sem.run Try.prog (Instr.makeSlice 50 (.int .i64 (L : Int)) (.int .i64 (L : Int))) w = .ok (.slice (some ⟨w.heap.size, 0, none⟩) L L) (w.alloc (.cells (rowU L fun _ => 0) 5)) := by
  have hinfo : (Try.prog.info? 5).map (fun i => (i.zero, i.size, i.bytes)) = some (some (.int .u8 0), 1, 1) := by kernel_rfl
  cases hi : Try.prog.info? 5 with
  | none => simp [hi] at hinfo
  | some i =>
    simp only [hi, Option.map_some, Option.some.injEq, Prod.mk.injEq] at hinfo
    obtain ⟨hz, hs, hb⟩ := hinfo
    rw [run_makeSlice (P := Try.prog) w 50 5 i _ Try.underlying50 hi hz .i64 .i64 (L : Int) (L : Int) (by omega) (by omega) (by rw [hs]; omega) (by rw [hb]; omega) (by omega), hs]
    simp [rowU_made, Value.cells]
/-- the draft's octets: none, or a row of them -/
def Octets (w : World) (x : Option Addr) (len : Nat) : Prop := len = 0 ∨ ∃ b o, x = some ⟨b, o, none⟩ ∧ b < w.heap.size ∧ ∀ i, i < len → ∃ v : Int, 0 ≤ v ∧ v ≤ 255 ∧ w.cell? ⟨b, o + i, none⟩ = some (.int .u8 v)
/-- a slice of whole numbers as an argument -/
def IsRow (k : IntKind) (w : World) (a : Option Addr) (len cap : Nat) : Prop :=
  (a = none ∧ len = 0 ∧ cap = 0) ∨ ∃ (x : Addr) (zs : List Int), a = some x ∧ len ≤ cap ∧ cap ≤ maxLen ∧ zs.length = cap ∧ (∀ i, i < zs.length → w.cell? (x.add i) = some (.int k (zs.getD i 0))) ∧ ∀ n ∈ zs, (Lit.int k n).wf = true
theorem IsRow.octets {w : World} {a : Option Addr} {len cap : Nat} (h : IsRow .u8 w a len cap) : Octets w a len := by
  rcases h with ⟨_, h, _⟩ | ⟨x, zs, rfl, hl, _, hz, hc, hw⟩
  · exact .inl h
  · rcases Nat.eq_zero_or_pos len with h0 | h0
    · exact .inl h0
    · obtain ⟨b, off, rfl, hd⟩ := ints_at hc (by omega)
      refine .inr ⟨b, off, rfl, block_lt_of_cell (hd 0 (by omega)), fun i hi => ?_⟩
      have h1 : i < zs.length := by omega
      have h2 := bounds_u8 (hw zs[i] (List.getElem_mem h1))
      exact ⟨zs[i], h2.1, h2.2, by rw [hd i h1, List.getD_eq_getElem?_getD, List.getElem?_eq_getElem h1]; rfl⟩
theorem IsRow.le {k : IntKind} {w : World} {a : Option Addr} {len cap : Nat} (h : IsRow k w a len cap) : len ≤ 9223372036854775807 := by
  rcases h with ⟨_, h, _⟩ | ⟨x, zs, rfl, hl, hm, _⟩
  · omega
  · unfold maxLen at hm; omega
theorem Octets.below {B : Nat} {w w' : World} {a : Option Addr} {len : Nat} (h : Octets w a len) (hb : Below B w w') (hB : w.heap.size ≤ B) : Octets w' a len := by
  rcases h with h | ⟨b, o, rfl, hlt, hc⟩
  · exact .inl h
  · refine .inr ⟨b, o, rfl, Nat.lt_of_lt_of_le hlt hb.size, fun i hi => ?_⟩
    obtain ⟨v, h1, h2, h3⟩ := hc i hi
    exact ⟨v, h1, h2, (hb.cell (p := ⟨b, o + i, none⟩) (by show b < B; omega)).trans h3⟩
theorem picf10 {w : World} {b t : Nat} {v0 v1 v2 v3 v4 v5 v6 v7 v8 v9 : Value} (h : w.heap[b]? = some (.cells #[v0, v1, v2, v3, v4, v5, v6, v7, v8, v9] t (0, 0))) (i : Nat) : w.frozen? ⟨b, i, none⟩ = false := by
  simp [World.frozen?, h]
end Go.Proofs.Ytiadenokcpnliaa
