/- What the walk of SampleKnown needs: the array of invalid pictures, cell by cell; a string of 4096 zero octets. -/
import Derived.Test.YtkkeahnmmpcceaaWorks
import Derived.Laws.Rows
import Derived.Lib.SlBytesRow
import Derived.Laws.MakeOwn
import Derived.WalkKit
import Derived.Lib.Hide
import Derived.Deep.QuietTactic
import Derived.BigQuiet
import Derived.Lib.QuietBelow
import Derived.Deep.RegionHeld3
import Derived.WalkLawsBesides
import Derived.WalkSpells
import Derived.Outline
import Derived.Deep.DeepFit
import Derived.Maps.AppendAt
import Derived.Deep.AppendLies
namespace Go.Proofs.Ytkkeahnmmpcceaa
open Go.RowKit

theorem scheck_at (W H N : Int) (S : ByteArray) (A B C D E F : Int) (V : Int) (w : World) (hS : S.size ≤ 9223372036854775807) (hV : pErr W H N S A B C D E F = V) :
    Calls Try.prog 10 #[.agg #[.int .i64 W, .int .i64 H, .int .i64 N, .string S, .int .i64 A, .int .i64 B, .int .i64 C, .int .i64 D, .int .i64 E, .int .i64 F]] w fun e w' => e = .returned (.int .i64 V) ∧ Below w.heap.size w w' := by
  rw [← hV]
  exact scheck_any _ _ _ _ _ _ _ _ _ _ _ hS
def bad9 : Array Value := #[.int .i64 0, .int .i64 0, .int .i64 0, .string ⟨#[]⟩, .int .i64 0, .int .i64 0, .int .i64 0, .int .i64 0, .int .i64 0, .int .i64 0, .int .i64 0, .int .i64 2, .int .i64 1, .string exS, .int .i64 196608, .int .i64 0, .int .i64 0, .int .i64 196608, .int .i64 655360, .int .i64 1310720, .int .i64 2, .int .i64 65, .int .i64 1, .string exS, .int .i64 196608, .int .i64 0, .int .i64 0, .int .i64 196608, .int .i64 655360, .int .i64 1310720, .int .i64 2, .int .i64 2, .int .i64 2, .string exS, .int .i64 196608, .int .i64 0, .int .i64 0, .int .i64 196608, .int .i64 655360, .int .i64 1310720, .int .i64 2, .int .i64 2, .int .i64 5, .string exS, .int .i64 196608, .int .i64 0, .int .i64 0, .int .i64 196608, .int .i64 655360, .int .i64 1310720, .int .i64 2, .int .i64 2, .int .i64 1, .string ⟨#[97, 98, 99]⟩, .int .i64 196608, .int .i64 0, .int .i64 0, .int .i64 196608, .int .i64 655360, .int .i64 1310720, .int .i64 2, .int .i64 2, .int .i64 1, .string ⟨#[97, 98, 99, 100, 101]⟩, .int .i64 196608, .int .i64 0, .int .i64 0, .int .i64 196608, .int .i64 655360, .int .i64 1310720, .int .i64 2, .int .i64 2, .int .i64 1, .string exS, .int .i64 16777217, .int .i64 0, .int .i64 0, .int .i64 196608, .int .i64 655360, .int .i64 1310720, .int .i64 2, .int .i64 2, .int .i64 1, .string exS, .int .i64 196608, .int .i64 0, .int .i64 0, .int .i64 196608, .int .i64 655360, .int .i64 (-536870913)]
theorem bad9_0 (w : World) : Sem.run Try.prog (Instr.index 54 (.agg bad9) (.int .i64 0)) w = .ok (.agg #[.int .i64 0, .int .i64 0, .int .i64 0, .string ⟨#[]⟩, .int .i64 0, .int .i64 0, .int .i64 0, .int .i64 0, .int .i64 0, .int .i64 0]) w := by kernel_rfl
theorem bad9_1 (w : World) : Sem.run Try.prog (Instr.index 54 (.agg bad9) (.int .i64 1)) w = .ok (.agg #[.int .i64 0, .int .i64 2, .int .i64 1, .string exS, .int .i64 196608, .int .i64 0, .int .i64 0, .int .i64 196608, .int .i64 655360, .int .i64 1310720]) w := by kernel_rfl
theorem bad9_2 (w : World) : Sem.run Try.prog (Instr.index 54 (.agg bad9) (.int .i64 2)) w = .ok (.agg #[.int .i64 2, .int .i64 65, .int .i64 1, .string exS, .int .i64 196608, .int .i64 0, .int .i64 0, .int .i64 196608, .int .i64 655360, .int .i64 1310720]) w := by kernel_rfl
theorem bad9_3 (w : World) : Sem.run Try.prog (Instr.index 54 (.agg bad9) (.int .i64 3)) w = .ok (.agg #[.int .i64 2, .int .i64 2, .int .i64 2, .string exS, .int .i64 196608, .int .i64 0, .int .i64 0, .int .i64 196608, .int .i64 655360, .int .i64 1310720]) w := by kernel_rfl
theorem bad9_4 (w : World) : Sem.run Try.prog (Instr.index 54 (.agg bad9) (.int .i64 4)) w = .ok (.agg #[.int .i64 2, .int .i64 2, .int .i64 5, .string exS, .int .i64 196608, .int .i64 0, .int .i64 0, .int .i64 196608, .int .i64 655360, .int .i64 1310720]) w := by kernel_rfl
theorem bad9_5 (w : World) : Sem.run Try.prog (Instr.index 54 (.agg bad9) (.int .i64 5)) w = .ok (.agg #[.int .i64 2, .int .i64 2, .int .i64 1, .string ⟨#[97, 98, 99]⟩, .int .i64 196608, .int .i64 0, .int .i64 0, .int .i64 196608, .int .i64 655360, .int .i64 1310720]) w := by kernel_rfl
theorem bad9_6 (w : World) : Sem.run Try.prog (Instr.index 54 (.agg bad9) (.int .i64 6)) w = .ok (.agg #[.int .i64 2, .int .i64 2, .int .i64 1, .string ⟨#[97, 98, 99, 100, 101]⟩, .int .i64 196608, .int .i64 0, .int .i64 0, .int .i64 196608, .int .i64 655360, .int .i64 1310720]) w := by kernel_rfl
theorem bad9_7 (w : World) : Sem.run Try.prog (Instr.index 54 (.agg bad9) (.int .i64 7)) w = .ok (.agg #[.int .i64 2, .int .i64 2, .int .i64 1, .string exS, .int .i64 16777217, .int .i64 0, .int .i64 0, .int .i64 196608, .int .i64 655360, .int .i64 1310720]) w := by kernel_rfl
theorem bad9_8 (w : World) : Sem.run Try.prog (Instr.index 54 (.agg bad9) (.int .i64 8)) w = .ok (.agg #[.int .i64 2, .int .i64 2, .int .i64 1, .string exS, .int .i64 196608, .int .i64 0, .int .i64 0, .int .i64 196608, .int .i64 655360, .int .i64 (-536870913)]) w := by kernel_rfl
def zero90 : Array Value := #[.int .i64 0, .int .i64 0, .int .i64 0, .string ⟨#[]⟩, .int .i64 0, .int .i64 0, .int .i64 0, .int .i64 0, .int .i64 0, .int .i64 0, .int .i64 0, .int .i64 0, .int .i64 0, .string ⟨#[]⟩, .int .i64 0, .int .i64 0, .int .i64 0, .int .i64 0, .int .i64 0, .int .i64 0, .int .i64 0, .int .i64 0, .int .i64 0, .string ⟨#[]⟩, .int .i64 0, .int .i64 0, .int .i64 0, .int .i64 0, .int .i64 0, .int .i64 0, .int .i64 0, .int .i64 0, .int .i64 0, .string ⟨#[]⟩, .int .i64 0, .int .i64 0, .int .i64 0, .int .i64 0, .int .i64 0, .int .i64 0, .int .i64 0, .int .i64 0, .int .i64 0, .string ⟨#[]⟩, .int .i64 0, .int .i64 0, .int .i64 0, .int .i64 0, .int .i64 0, .int .i64 0, .int .i64 0, .int .i64 0, .int .i64 0, .string ⟨#[]⟩, .int .i64 0, .int .i64 0, .int .i64 0, .int .i64 0, .int .i64 0, .int .i64 0, .int .i64 0, .int .i64 0, .int .i64 0, .string ⟨#[]⟩, .int .i64 0, .int .i64 0, .int .i64 0, .int .i64 0, .int .i64 0, .int .i64 0, .int .i64 0, .int .i64 0, .int .i64 0, .string ⟨#[]⟩, .int .i64 0, .int .i64 0, .int .i64 0, .int .i64 0, .int .i64 0, .int .i64 0, .int .i64 0, .int .i64 0, .int .i64 0, .string ⟨#[]⟩, .int .i64 0, .int .i64 0, .int .i64 0, .int .i64 0, .int .i64 0, .int .i64 0]
def nine0 : Array Value := #[.int .i64 0, .int .i64 0, .int .i64 0, .string ⟨#[]⟩, .int .i64 0, .int .i64 0, .int .i64 0, .int .i64 0, .int .i64 0, .int .i64 0, .int .i64 2, .int .i64 2, .int .i64 1, .string exS, .int .i64 196608, .int .i64 0, .int .i64 0, .int .i64 196608, .int .i64 655360, .int .i64 1310720, .int .i64 2, .int .i64 2, .int .i64 1, .string exS, .int .i64 196608, .int .i64 0, .int .i64 0, .int .i64 196608, .int .i64 655360, .int .i64 1310720, .int .i64 2, .int .i64 2, .int .i64 1, .string exS, .int .i64 196608, .int .i64 0, .int .i64 0, .int .i64 196608, .int .i64 655360, .int .i64 1310720, .int .i64 2, .int .i64 2, .int .i64 1, .string exS, .int .i64 196608, .int .i64 0, .int .i64 0, .int .i64 196608, .int .i64 655360, .int .i64 1310720, .int .i64 2, .int .i64 2, .int .i64 1, .string exS, .int .i64 196608, .int .i64 0, .int .i64 0, .int .i64 196608, .int .i64 655360, .int .i64 1310720, .int .i64 2, .int .i64 2, .int .i64 1, .string exS, .int .i64 196608, .int .i64 0, .int .i64 0, .int .i64 196608, .int .i64 655360, .int .i64 1310720, .int .i64 2, .int .i64 2, .int .i64 1, .string exS, .int .i64 196608, .int .i64 0, .int .i64 0, .int .i64 196608, .int .i64 655360, .int .i64 1310720, .int .i64 2, .int .i64 2, .int .i64 1, .string exS, .int .i64 196608, .int .i64 0, .int .i64 0, .int .i64 196608, .int .i64 655360, .int .i64 1310720]
theorem zero90_is (w : World) : Sem.run Try.prog (zeroValue 54) w = .ok (.agg zero90) w := by kernel_rfl
def picC : Array Value := #[.int .i64 2, .int .i64 2, .int .i64 1, .string exS, .int .i64 196608, .int .i64 0, .int .i64 0, .int .i64 196608, .int .i64 655360, .int .i64 1310720]
theorem upon_eq {P : Program} {o : Oper} {a : Act} {K : Act → World → Prop} {Q : Exit → Act → World → Prop} {r r' : Result Next} (h : r' = r) (hr : Oper.upon P o a K Q r) : Oper.upon P o a K Q r' := by rw [h]; exact hr
theorem wp_alloc_agg {P : Program} {o : Oper} {a : Act} {w : World} {K : Act → World → Prop} {Q : Exit → Act → World → Prop} (t : TypeId) (cs : Array Value) (ho : o.op = .alloc t) (hz : ∀ w, Sem.run P (zeroValue t) w = .ok (.agg cs) w)
    (h : K (a.put o.dst (.pointer (some ⟨w.heap.size, 0, none⟩))) (w.alloc (.cells cs t))) : o.wp P a w K Q := by
  unfold Oper.wp execOp
  simp [ho, Instr.alloc, hz, newVar, Value.cells]
  exact h
theorem store_new {P : Program} (w : World) (t : TypeId) (old cells : Array Value) (b : Nat) (hb : b = w.heap.size) (ho : old.size = cells.size) (h1 : cells.all (·.oneCell') = true) :
    Sem.run P (storeCells ⟨b, 0, none⟩ cells.toList) (w.alloc (.cells old t)) = .ok () (w.alloc (.cells cells t)) := by
  subst hb
  have h := run_storeCells_from (P := P) w.heap.size t cells.toList 0 old (w.alloc (.cells old t)) (heap_alloc_new w _) (by simp; omega) (fun v hv => (Array.all_eq_true_iff_forall_mem.1 h1) v (by simpa using hv))
  have e : (w.alloc (.cells old t)).setRow w.heap.size (old.toList.take 0 ++ cells.toList).toArray = w.alloc (.cells cells t) := by
    unfold World.setRow World.alloc
    congr 1
    apply Array.ext
    · simp
    · intro i h1 h2
      simp only [Array.getElem_modify, Array.getElem_push]
      by_cases h : w.heap.size = i
      · subst h
        simp
      · have hi : i < w.heap.size := by simp at h1; omega
        simp [h, hi]
  rw [e] at h
  exact h
def z4096 : ByteArray := ⟨Array.replicate 4096 0⟩
theorem z4096_size : z4096.size = 4096 := by simp [z4096, ByteArray.size]
theorem z4096_le : z4096.size ≤ 9223372036854775807 := by rw [z4096_size]; decide
theorem big_ok : pOk 64 64 1 z4096 65536 0 0 65536 0 0 := by
  unfold pOk mOk
  rw [z4096_size]
  omega
theorem big_in : placeV 64 64 1 z4096 65536 0 0 65536 0 0 63 63 = .tuple #[.int .i64 63, .int .i64 63, .bool true, .int .i64 0] := by
  rw [place_in 63 63 big_ok (by kernel_rfl) (by kernel_rfl)]
  kernel_rfl
theorem big_out : placeV 64 64 1 z4096 65536 0 0 65536 0 0 (-1024) 1023 = .tuple #[.int .i64 0, .int .i64 0, .bool false, .int .i64 0] := place_out _ _ big_ok (by kernel_rfl) (by kernel_rfl)
theorem big_err : pErr 64 64 1 z4096 65536 0 0 65536 0 0 = 0 := if_pos big_ok
theorem made_bytes (w : World) (t : TypeId) : Lib.Bytes (w.alloc (.cells (madeCells #[.int .u8 0] 4096) t)) w.heap.size 0 z4096 := by
  intro i hi
  have h4 : i < 4096 := by rw [z4096_size] at hi; exact hi
  rw [Nat.zero_add, World.cell?_alloc_at _ _ _ _ rfl]
  simp [madeCells, h4, z4096, ByteArray.getElem_eq_getElem_data, Nat.mod_one]
theorem made_string (w : World) (t : TypeId) : (convert 22 9 (.slice (some ⟨w.heap.size, 0, none⟩) 4096 4096)).run Try.prog (w.alloc (.cells (madeCells #[.int .u8 0] 4096) t)) = .ok (.string z4096) (w.alloc (.cells (madeCells #[.int .u8 0] 4096) t)) := by
  have h := Lib.run_convert_whole (P := Try.prog) (w.alloc (.cells (madeCells #[.int .u8 0] 4096) t)) 22 5 9 Try.underlying22 Try.underlying5 Try.underlying9 w.heap.size 0 z4096 (made_bytes w t) 4096
  rw [z4096_size] at h
  exact h
theorem make_at (w : World) (b : Nat) (hb : b = w.heap.size) : Sem.run Try.prog (Instr.makeSlice 22 (.int .i64 4096) (.int .i64 4096)) w = .ok (.slice (some ⟨b, 0, none⟩) 4096 4096) (w.alloc (.cells (madeCells #[.int .u8 0] 4096) 5)) := by
  subst hb
  exact run_makeSlice (P := Try.prog) (w := w) 22 5 _ _ Try.underlying22 rfl rfl .i64 .i64 4096 4096 (by decide) (by decide) (by decide) (by decide) (by decide)
theorem made_string_at (w : World) (t : TypeId) (b : Nat) (hb : b = w.heap.size) : (convert 22 9 (.slice (some ⟨b, 0, none⟩) 4096 4096)).run Try.prog (w.alloc (.cells (madeCells #[.int .u8 0] 4096) t)) = .ok (.string z4096) (w.alloc (.cells (madeCells #[.int .u8 0] 4096) t)) := by
  subst hb
  exact made_string w t
end Go.Proofs.Ytkkeahnmmpcceaa
