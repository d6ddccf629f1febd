/- chapter 27: the map of the spot functions. -/
import Derived.Test.YtdkkjlapmaageaaToB
import Derived.WideMake
import Derived.WalkKit
import Derived.Lib.Hide
import Derived.Deep.QuietTactic
import Derived.BigQuiet
import Derived.Lib.QuietBelow
import Derived.Deep.RegionHeld3
import Derived.WalkLawsBesides
import Derived.WalkSpells
import Derived.Outline
import Derived.Deep.DeepFit
import Derived.Maps.AppendAt
import Derived.Deep.AppendLies
namespace Go.Proofs.Ytdkkjlapmaageaa.T3
set_option linter.unusedSimpArgs false
set_option linter.unusedVariables false
open Go.RowKit Go.Sort Go.Lib
set_option maxHeartbeats 1000000
set_option maxRecDepth 100000
def ent (k : Int) (f c : Nat) : MapEntry := { key := .int .i64 k, val := .func (.func f) #[] #[], born := c }
theorem mup (W : World) (b c : Nat) (es : Array MapEntry) (k : Int) (f : Nat) (hb : W.heap[b]? = some (.map es c)) (hn : Instr.findNow (.int .i64) (.int .i64 k) es.toList 0 = some none) :
    (Instr.mapUpdate 63 (.map (some b)) (.int .i64 k) (.func (.func f) #[] #[])).run Try.prog W = .ok () { W with heap := W.heap.setIfInBounds b (.map (es.push (ent k f c)) (c + 1)) } := by
  have hc : (Instr.checkKey false 10000 3 (.int .i64 k)).run Try.prog W = .ok () W := MapKept.run_checkKey (k := .int .i64 k) Try.underlying3 (by simp [MapKept.IsKey]) false 9999
  simp [Instr.mapUpdate, run_underlying Try.underlying63, MapKept.run_getObj_map hb, hc, MapKept.run_findKey Try.underlying3 hn, MapKept.run_setObj_map _ hb, Result.andThen, ent]
theorem mlk (W : World) (b c : Nat) (es : Array MapEntry) (k : Int) (r : Option (Nat × Value)) (hb : W.heap[b]? = some (.map es c)) (hn : Instr.findNow (.int .i64) (.int .i64 k) es.toList 0 = some r) (he : es.isEmpty = false) :
    (Instr.lookup 63 (.map (some b)) (.int .i64 k) true).run Try.prog W = .ok (match r with | some (_, v) => .tuple #[v, .bool true] | none => .tuple #[.nilFunc, .bool false]) W := by
  have hc : (Instr.checkKey false 10000 3 (.int .i64 k)).run Try.prog W = .ok () W := MapKept.run_checkKey (k := .int .i64 k) Try.underlying3 (by simp [MapKept.IsKey]) false 9999
  have hz : (zeroValue 58).run Try.prog W = .ok .nilFunc W := by rfl
  cases r with
  | none => simp [Instr.lookup, run_underlying Try.underlying63, MapKept.run_getObj_map hb, he, hc, MapKept.run_findKey Try.underlying3 hn, hz, Result.andThen]
  | some p => simp [Instr.lookup, run_underlying Try.underlying63, MapKept.run_getObj_map hb, he, hc, MapKept.run_findKey Try.underlying3 hn, Result.andThen]
end Go.Proofs.Ytdkkjlapmaageaa.T3
