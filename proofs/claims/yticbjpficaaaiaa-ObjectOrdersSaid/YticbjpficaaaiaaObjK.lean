/- object.kinds returns the table of kinds; a kind's row is what kName, kLo, kHi, kSh, kLg, kRf tell. -/
import Derived.Test.YticbjpficaaaiaaObjP
import Derived.Test.YticbjpficaaaiaaBase
import Derived.Laws.Rows
import Derived.WalkKit
import Derived.Lib.Hide
import Derived.Deep.QuietTactic
import Derived.BigQuiet
import Derived.Lib.QuietBelow
import Derived.Deep.RegionHeld3
import Derived.WalkLawsBesides
import Derived.WalkSpells
import Derived.Outline
import Derived.Deep.DeepFit
import Derived.Maps.AppendAt
import Derived.Deep.AppendLies
namespace Go.Proofs.Yticbjpficaaaiaa
set_option linter.unusedSimpArgs false
set_option linter.unusedVariables false
open Go.RowKit

def kinds78 : Array Value := #[.string ⟨#[110, 117, 108, 108, 116, 121, 112, 101]⟩, .int .i64 0, .int .i64 0, .int .i64 0, .int .i64 0, .int .i64 0, .string ⟨#[109, 97, 114, 107, 116, 121, 112, 101]⟩, .int .i64 0, .int .i64 0, .int .i64 0, .int .i64 0, .int .i64 0, .string ⟨#[98, 111, 111, 108, 101, 97, 110, 116, 121, 112, 101]⟩, .int .i64 0, .int .i64 1, .int .i64 0, .int .i64 0, .int .i64 0, .string ⟨#[105, 110, 116, 101, 103, 101, 114, 116, 121, 112, 101]⟩, .int .i64 (-2147483648), .int .i64 2147483647, .int .i64 0, .int .i64 0, .int .i64 0, .string ⟨#[114, 101, 97, 108, 116, 121, 112, 101]⟩, .int .i64 (-2147483648), .int .i64 2147483648, .int .i64 0, .int .i64 0, .int .i64 0, .string ⟨#[110, 97, 109, 101, 116, 121, 112, 101]⟩, .int .i64 0, .int .i64 0, .int .i64 0, .int .i64 100, .int .i64 0, .string ⟨#[115, 116, 114, 105, 110, 103, 116, 121, 112, 101]⟩, .int .i64 0, .int .i64 0, .int .i64 0, .int .i64 0, .int .i64 1, .string ⟨#[97, 114, 114, 97, 121, 116, 121, 112, 101]⟩, .int .i64 0, .int .i64 0, .int .i64 0, .int .i64 0, .int .i64 2, .string ⟨#[112, 97, 99, 107, 101, 100, 97, 114, 114, 97, 121, 116, 121, 112, 101]⟩, .int .i64 0, .int .i64 0, .int .i64 0, .int .i64 0, .int .i64 2, .string ⟨#[100, 105, 99, 116, 116, 121, 112, 101]⟩, .int .i64 0, .int .i64 0, .int .i64 0, .int .i64 0, .int .i64 3, .string ⟨#[111, 112, 101, 114, 97, 116, 111, 114, 116, 121, 112, 101]⟩, .int .i64 0, .int .i64 0, .int .i64 1, .int .i64 100, .int .i64 0, .string ⟨#[102, 105, 108, 101, 116, 121, 112, 101]⟩, .int .i64 0, .int .i64 0, .int .i64 0, .int .i64 0, .int .i64 3, .string ⟨#[115, 97, 118, 101, 116, 121, 112, 101]⟩, .int .i64 1, .int .i64 9223372036854775807, .int .i64 0, .int .i64 0, .int .i64 0]
def zero78 : Array Value := #[.string ⟨#[]⟩, .int .i64 0, .int .i64 0, .int .i64 0, .int .i64 0, .int .i64 0, .string ⟨#[]⟩, .int .i64 0, .int .i64 0, .int .i64 0, .int .i64 0, .int .i64 0, .string ⟨#[]⟩, .int .i64 0, .int .i64 0, .int .i64 0, .int .i64 0, .int .i64 0, .string ⟨#[]⟩, .int .i64 0, .int .i64 0, .int .i64 0, .int .i64 0, .int .i64 0, .string ⟨#[]⟩, .int .i64 0, .int .i64 0, .int .i64 0, .int .i64 0, .int .i64 0, .string ⟨#[]⟩, .int .i64 0, .int .i64 0, .int .i64 0, .int .i64 0, .int .i64 0, .string ⟨#[]⟩, .int .i64 0, .int .i64 0, .int .i64 0, .int .i64 0, .int .i64 0, .string ⟨#[]⟩, .int .i64 0, .int .i64 0, .int .i64 0, .int .i64 0, .int .i64 0, .string ⟨#[]⟩, .int .i64 0, .int .i64 0, .int .i64 0, .int .i64 0, .int .i64 0, .string ⟨#[]⟩, .int .i64 0, .int .i64 0, .int .i64 0, .int .i64 0, .int .i64 0, .string ⟨#[]⟩, .int .i64 0, .int .i64 0, .int .i64 0, .int .i64 0, .int .i64 0, .string ⟨#[]⟩, .int .i64 0, .int .i64 0, .int .i64 0, .int .i64 0, .int .i64 0, .string ⟨#[]⟩, .int .i64 0, .int .i64 0, .int .i64 0, .int .i64 0, .int .i64 0]
def kName (K : Int) : ByteArray := if K = 0 then ⟨#[110, 117, 108, 108, 116, 121, 112, 101]⟩ else if K = 1 then ⟨#[109, 97, 114, 107, 116, 121, 112, 101]⟩ else if K = 2 then ⟨#[98, 111, 111, 108, 101, 97, 110, 116, 121, 112, 101]⟩ else if K = 3 then ⟨#[105, 110, 116, 101, 103, 101, 114, 116, 121, 112, 101]⟩ else if K = 4 then ⟨#[114, 101, 97, 108, 116, 121, 112, 101]⟩ else if K = 5 then ⟨#[110, 97, 109, 101, 116, 121, 112, 101]⟩ else if K = 6 then ⟨#[115, 116, 114, 105, 110, 103, 116, 121, 112, 101]⟩ else if K = 7 then ⟨#[97, 114, 114, 97, 121, 116, 121, 112, 101]⟩ else if K = 8 then ⟨#[112, 97, 99, 107, 101, 100, 97, 114, 114, 97, 121, 116, 121, 112, 101]⟩ else if K = 9 then ⟨#[100, 105, 99, 116, 116, 121, 112, 101]⟩ else if K = 10 then ⟨#[111, 112, 101, 114, 97, 116, 111, 114, 116, 121, 112, 101]⟩ else if K = 11 then ⟨#[102, 105, 108, 101, 116, 121, 112, 101]⟩ else if K = 12 then ⟨#[115, 97, 118, 101, 116, 121, 112, 101]⟩ else ⟨#[]⟩
theorem zero78_is (w : World) : Sem.run Try.prog (zeroValue 55) w = .ok (.agg zero78) w := by kernel_rfl
theorem upon_eq {P : Program} {o : Oper} {a : Act} {K : Act → World → Prop} {Q : Exit → Act → World → Prop} {r r' : Result Next} (h : r' = r) (hr : Oper.upon P o a K Q r) : Oper.upon P o a K Q r' := by rw [h]; exact hr
theorem store_new {P : Program} (w : World) (t : TypeId) (old cells : Array Value) (b : Nat) (hb : b = w.heap.size) (ho : old.size = cells.size) (h1 : cells.all (·.oneCell') = true) :
    Sem.run P (storeCells ⟨b, 0, none⟩ cells.toList) (w.alloc (.cells old t)) = .ok () (w.alloc (.cells cells t)) := by
  subst hb
  have h := run_storeCells_from (P := P) w.heap.size t cells.toList 0 old (w.alloc (.cells old t)) (heap_alloc_new w _) (by simp; omega) (fun v hv => (Array.all_eq_true_iff_forall_mem.1 h1) v (by simpa using hv))
  have e : (w.alloc (.cells old t)).setRow w.heap.size (old.toList.take 0 ++ cells.toList).toArray = w.alloc (.cells cells t) := by
    unfold World.setRow World.alloc
    congr 1
    apply Array.ext
    · simp
    · intro i h1 h2
      simp only [Array.getElem_modify, Array.getElem_push]
      by_cases h : w.heap.size = i
      · subst h
        simp
      · have hi : i < w.heap.size := by simp at h1; omega
        simp [h, hi]
  rw [e] at h
  exact h
theorem kinds_at0 (w : World) : Sem.run Try.prog (Instr.index 55 (.agg kinds78) (.int .i64 0)) w = .ok (.agg #[.string (kName 0), .int .i64 (kLo 0), .int .i64 (kHi 0), .int .i64 (kSh 0), .int .i64 (kLg 0), .int .i64 (kRf 0)]) w := by kernel_rfl
theorem kinds_at1 (w : World) : Sem.run Try.prog (Instr.index 55 (.agg kinds78) (.int .i64 1)) w = .ok (.agg #[.string (kName 1), .int .i64 (kLo 1), .int .i64 (kHi 1), .int .i64 (kSh 1), .int .i64 (kLg 1), .int .i64 (kRf 1)]) w := by kernel_rfl
theorem kinds_at2 (w : World) : Sem.run Try.prog (Instr.index 55 (.agg kinds78) (.int .i64 2)) w = .ok (.agg #[.string (kName 2), .int .i64 (kLo 2), .int .i64 (kHi 2), .int .i64 (kSh 2), .int .i64 (kLg 2), .int .i64 (kRf 2)]) w := by kernel_rfl
theorem kinds_at3 (w : World) : Sem.run Try.prog (Instr.index 55 (.agg kinds78) (.int .i64 3)) w = .ok (.agg #[.string (kName 3), .int .i64 (kLo 3), .int .i64 (kHi 3), .int .i64 (kSh 3), .int .i64 (kLg 3), .int .i64 (kRf 3)]) w := by kernel_rfl
theorem kinds_at4 (w : World) : Sem.run Try.prog (Instr.index 55 (.agg kinds78) (.int .i64 4)) w = .ok (.agg #[.string (kName 4), .int .i64 (kLo 4), .int .i64 (kHi 4), .int .i64 (kSh 4), .int .i64 (kLg 4), .int .i64 (kRf 4)]) w := by kernel_rfl
theorem kinds_at5 (w : World) : Sem.run Try.prog (Instr.index 55 (.agg kinds78) (.int .i64 5)) w = .ok (.agg #[.string (kName 5), .int .i64 (kLo 5), .int .i64 (kHi 5), .int .i64 (kSh 5), .int .i64 (kLg 5), .int .i64 (kRf 5)]) w := by kernel_rfl
theorem kinds_at6 (w : World) : Sem.run Try.prog (Instr.index 55 (.agg kinds78) (.int .i64 6)) w = .ok (.agg #[.string (kName 6), .int .i64 (kLo 6), .int .i64 (kHi 6), .int .i64 (kSh 6), .int .i64 (kLg 6), .int .i64 (kRf 6)]) w := by kernel_rfl
theorem kinds_at7 (w : World) : Sem.run Try.prog (Instr.index 55 (.agg kinds78) (.int .i64 7)) w = .ok (.agg #[.string (kName 7), .int .i64 (kLo 7), .int .i64 (kHi 7), .int .i64 (kSh 7), .int .i64 (kLg 7), .int .i64 (kRf 7)]) w := by kernel_rfl
theorem kinds_at8 (w : World) : Sem.run Try.prog (Instr.index 55 (.agg kinds78) (.int .i64 8)) w = .ok (.agg #[.string (kName 8), .int .i64 (kLo 8), .int .i64 (kHi 8), .int .i64 (kSh 8), .int .i64 (kLg 8), .int .i64 (kRf 8)]) w := by kernel_rfl
theorem kinds_at9 (w : World) : Sem.run Try.prog (Instr.index 55 (.agg kinds78) (.int .i64 9)) w = .ok (.agg #[.string (kName 9), .int .i64 (kLo 9), .int .i64 (kHi 9), .int .i64 (kSh 9), .int .i64 (kLg 9), .int .i64 (kRf 9)]) w := by kernel_rfl
theorem kinds_at10 (w : World) : Sem.run Try.prog (Instr.index 55 (.agg kinds78) (.int .i64 10)) w = .ok (.agg #[.string (kName 10), .int .i64 (kLo 10), .int .i64 (kHi 10), .int .i64 (kSh 10), .int .i64 (kLg 10), .int .i64 (kRf 10)]) w := by kernel_rfl
theorem kinds_at11 (w : World) : Sem.run Try.prog (Instr.index 55 (.agg kinds78) (.int .i64 11)) w = .ok (.agg #[.string (kName 11), .int .i64 (kLo 11), .int .i64 (kHi 11), .int .i64 (kSh 11), .int .i64 (kLg 11), .int .i64 (kRf 11)]) w := by kernel_rfl
theorem kinds_at12 (w : World) : Sem.run Try.prog (Instr.index 55 (.agg kinds78) (.int .i64 12)) w = .ok (.agg #[.string (kName 12), .int .i64 (kLo 12), .int .i64 (kHi 12), .int .i64 (kSh 12), .int .i64 (kLg 12), .int .i64 (kRf 12)]) w := by kernel_rfl
theorem kinds_at (K : Int) (hK : 0 ≤ K ∧ K < 13) (w : World) : Sem.run Try.prog (Instr.index 55 (.agg kinds78) (.int .i64 K)) w = .ok (.agg #[.string (kName K), .int .i64 (kLo K), .int .i64 (kHi K), .int .i64 (kSh K), .int .i64 (kLg K), .int .i64 (kRf K)]) w := by
  have hc : K = 0 ∨ K = 1 ∨ K = 2 ∨ K = 3 ∨ K = 4 ∨ K = 5 ∨ K = 6 ∨ K = 7 ∨ K = 8 ∨ K = 9 ∨ K = 10 ∨ K = 11 ∨ K = 12 := by omega
  rcases hc with rfl | rfl | rfl | rfl | rfl | rfl | rfl | rfl | rfl | rfl | rfl | rfl | rfl
  · exact kinds_at0 w
  · exact kinds_at1 w
  · exact kinds_at2 w
  · exact kinds_at3 w
  · exact kinds_at4 w
  · exact kinds_at5 w
  · exact kinds_at6 w
  · exact kinds_at7 w
  · exact kinds_at8 w
  · exact kinds_at9 w
  · exact kinds_at10 w
  · exact kinds_at11 w
  · exact kinds_at12 w
set_option maxRecDepth 100000 in
set_option maxHeartbeats 4000000 in
theorem kinds_any (w : World) : Calls Try.prog 34 #[] w fun e w' => e = .returned (.agg kinds78) ∧ Below w.heap.size w w' := by
  go_enter Try.func34, Try.ntmps34
  go_wp2_with fail
  refine upon_eq (r := .ok (.value (.pointer (some ⟨w.heap.size, 0, none⟩))) (w.alloc (.cells zero78 55))) (by kernel_rfl) ?_
  go_wp2_with fail
  refine upon_eq (r := .ok (.value (.agg kinds78)) (w.alloc (.cells zero78 55))) (by kernel_rfl) ?_
  have h78 : kinds78.size = 78 := by kernel_rfl
  have hst := store_new (P := Try.prog) w 55 zero78 kinds78 w.heap.size rfl (by kernel_rfl) (by kernel_rfl)
  go_wp2_with fail
  exact bodyPost_ret (v := .agg kinds78) (results_cell_row Try.results34 _ _ w.heap.size 55 kinds78 (0, 0) _ (by simp) (heap_alloc_new w _) Try.underlying55 rfl (by kernel_rfl)) rfl ⟨rfl, (by repeat (first | with_reducible exact Below.refl _ _ | with_reducible assumption | ((with_reducible refine Below.alloc ?_ ?hb_ _); (case hb_ => first | omega | (simp; done) | (simp; omega))) | ((with_reducible refine Below.setCell ?_ ?hb_ _); (case hb_ => first | omega | (simp; done) | (simp; omega))) | with_reducible refine Below.drew ?_ | with_reducible refine below_drewN ?_ _))⟩
end Go.Proofs.Yticbjpficaaaiaa
