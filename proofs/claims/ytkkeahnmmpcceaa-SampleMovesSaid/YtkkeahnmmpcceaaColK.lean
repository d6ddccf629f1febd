/- color.kinds: a new map from 1, 3 and 4 to three functions; its look-up. -/
import Derived.Test.YtkkeahnmmpcceaaMat
import Derived.MapFrom
import Derived.WalkKit
import Derived.Lib.Hide
import Derived.Deep.QuietTactic
import Derived.BigQuiet
import Derived.Lib.QuietBelow
import Derived.Deep.RegionHeld3
import Derived.WalkLawsBesides
import Derived.WalkSpells
import Derived.Outline
import Derived.Deep.DeepFit
import Derived.Maps.AppendAt
import Derived.Deep.AppendLies
namespace Go.Proofs.Ytkkeahnmmpcceaa
open Go.RowKit

def fK (f : Nat) : Value := .func (.func f) #[] #[]
def kM1 : Array MapEntry := #[{ key := .int .i64 1, val := fK 36, born := 0 }]
def kM2 : Array MapEntry := #[{ key := .int .i64 1, val := fK 36, born := 0 }, { key := .int .i64 3, val := fK 37, born := 1 }]
def kM3 : Array MapEntry := #[{ key := .int .i64 1, val := fK 36, born := 0 }, { key := .int .i64 3, val := fK 37, born := 1 }, { key := .int .i64 4, val := fK 38, born := 2 }]
def setW (w : World) (r : Nat) (o : Obj) : World := { w with heap := w.heap.setIfInBounds r o }
theorem setW_at (w : World) (r : Nat) (o : Obj) (h : r < w.heap.size) : (setW w r o).heap[r]? = some o := by simp [setW, h]
theorem setW_size (w : World) (r : Nat) (o : Obj) : (setW w r o).heap.size = w.heap.size := by simp [setW]
theorem setW_below {B : Nat} {a w : World} (h : Below B a w) (r : Nat) (hr : B ≤ r) (o : Obj) : Below B a (setW w r o) :=
  h.trans ⟨rfl, rfl, rfl, by simp [setW], fun k hk => by simp [setW, Array.getElem?_setIfInBounds]; intro e; omega⟩
theorem ins_new {w : World} {r : Nat} {es : Array MapEntry} {c : Nat} (k : Int) (v : Value) (hb : w.heap[r]? = some (.map es c)) (h1 : Instr.findNow (.int .i64) (.int .i64 k) es.toList 0 = some none) :
    (Instr.mapUpdate 71 (.map (some r)) (.int .i64 k) v).run Try.prog w = .ok () (setW w r (.map (es.push { key := .int .i64 k, val := v, born := c }) (c + 1))) := by
  simp [Instr.mapUpdate, run_underlying Try.underlying71, MapKept.run_getObj_map hb, MapKept.run_checkKey Try.underlying3 (show MapKept.IsKey (.int .i64) (.int .i64 k) from rfl), MapKept.run_findKey Try.underlying3 h1, MapKept.run_setObj_map _ hb, Result.andThen, setW]

def wK0 (w : World) : World := w.alloc (.map #[] 0)
def wK1 (w : World) : World := setW (wK0 w) w.heap.size (.map kM1 1)
def wK2 (w : World) : World := setW (wK1 w) w.heap.size (.map kM2 2)
def wK3 (w : World) : World := setW (wK2 w) w.heap.size (.map kM3 3)
theorem wK0_at (w : World) : (wK0 w).heap[w.heap.size]? = some (.map #[] 0) := heap_alloc_new w _
theorem wK0_size (w : World) : (wK0 w).heap.size = w.heap.size + 1 := by simp [wK0]
theorem wK1_at (w : World) : (wK1 w).heap[w.heap.size]? = some (.map kM1 1) := setW_at _ _ _ (by rw [wK0_size]; omega)
theorem wK2_at (w : World) : (wK2 w).heap[w.heap.size]? = some (.map kM2 2) := setW_at _ _ _ (by rw [wK1, setW_size, wK0_size]; omega)
theorem wK3_at (w : World) : (wK3 w).heap[w.heap.size]? = some (.map kM3 3) := setW_at _ _ _ (by rw [wK2, setW_size, wK1, setW_size, wK0_size]; omega)
theorem wK3_below (w : World) : Below w.heap.size w (wK3 w) := setW_below (setW_below (setW_below ((Below.refl _ w).alloc (Nat.le_refl _) _) _ (Nat.le_refl _) _) _ (Nat.le_refl _) _) _ (Nat.le_refl _) _

def KindsPost (w : World) (e : Ending) (w' : World) : Prop := ∃ m, e = .returned (.map (some m)) ∧ w'.heap[m]? = some (.map kM3 3) ∧ Below w.heap.size w w'
set_option maxHeartbeats 400000 in
theorem kinds_any (w : World) : Calls Try.prog 29 #[] w (KindsPost w) := by
  have hmm : (Instr.makeMap 71 none).run Try.prog w = .ok (.map (some w.heap.size)) (wK0 w) := rfl
  have h1 : (Instr.mapUpdate 71 (.map (some w.heap.size)) (.int .i64 1) (.func (.func 36) #[] #[])).run Try.prog (wK0 w) = .ok () (wK1 w) := ins_new 1 _ (wK0_at w) rfl
  have h2 : (Instr.mapUpdate 71 (.map (some w.heap.size)) (.int .i64 3) (.func (.func 37) #[] #[])).run Try.prog (wK1 w) = .ok () (wK2 w) := ins_new 3 _ (wK1_at w) rfl
  have h3 : (Instr.mapUpdate 71 (.map (some w.heap.size)) (.int .i64 4) (.func (.func 38) #[] #[])).run Try.prog (wK2 w) = .ok () (wK3 w) := ins_new 4 _ (wK2_at w) rfl
  go_enter Try.func29, Try.ntmps29
  go_wp2_with fail
  go_ret
  exact ⟨w.heap.size, rfl, wK3_at w, wK3_below w⟩

/-- the look-up, with ok -/
def kSel (n : Int) : Value := if n = 1 then fK 36 else if n = 3 then fK 37 else if n = 4 then fK 38 else .nilFunc
def kIs (n : Int) : Bool := decide (n = 1 ∨ n = 3 ∨ n = 4)
theorem zeroFn (w : World) : (zeroValue 69).run Try.prog w = .ok .nilFunc w := by kernel_rfl
theorem kLook {w : World} {m : Nat} (n : Int) (hb : w.heap[m]? = some (.map kM3 3)) :
    (Instr.lookup 71 (.map (some m)) (.int .i64 n) true).run Try.prog w = .ok (.tuple #[kSel n, .bool (kIs n)]) w := by
  have hz := zeroFn w
  have hk := MapKept.run_checkKey (P := Try.prog) (w := w) Try.underlying3 (show MapKept.IsKey (.int .i64) (.int .i64 n) from rfl)
  by_cases h1 : n = 1
  · subst h1
    have hf : Instr.findNow (.int .i64) (.int .i64 1) kM3.toList 0 = some (some (0, fK 36)) := rfl
    simp [Instr.lookup, run_underlying Try.underlying71, MapKept.run_getObj_map hb, hk, MapKept.run_findKey Try.underlying3 hf, Result.andThen, kSel, kIs]
  · by_cases h3 : n = 3
    · subst h3
      have hf : Instr.findNow (.int .i64) (.int .i64 3) kM3.toList 0 = some (some (1, fK 37)) := rfl
      simp [Instr.lookup, run_underlying Try.underlying71, MapKept.run_getObj_map hb, hk, MapKept.run_findKey Try.underlying3 hf, Result.andThen, kSel, kIs]
    · by_cases h4 : n = 4
      · subst h4
        have hf : Instr.findNow (.int .i64) (.int .i64 4) kM3.toList 0 = some (some (2, fK 38)) := rfl
        simp [Instr.lookup, run_underlying Try.underlying71, MapKept.run_getObj_map hb, hk, MapKept.run_findKey Try.underlying3 hf, Result.andThen, kSel, kIs]
      · have hf : Instr.findNow (.int .i64) (.int .i64 n) kM3.toList 0 = some none := by
          have b1 : (n == 1) = false := by simpa using h1
          have b3 : (n == 3) = false := by simpa using h3
          have b4 : (n == 4) = false := by simpa using h4
          simp [kM3, Instr.findNow, Instr.sameNow, b1, b3, b4]
        simp [Instr.lookup, run_underlying Try.underlying71, MapKept.run_getObj_map hb, hk, MapKept.run_findKey Try.underlying3 hf, Result.andThen, kSel, kIs, h1, h3, h4, hz]
end Go.Proofs.Ytkkeahnmmpcceaa
