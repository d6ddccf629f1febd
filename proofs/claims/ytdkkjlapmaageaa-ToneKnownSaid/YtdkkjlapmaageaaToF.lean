/- chapter 27: slices.SortFunc at pixels. -/
import Derived.Test.YtdkkjlapmaageaaToC
import Derived.Test.YtdkkjlapmaageaaToS
import Derived.WalkKit
import Derived.Lib.Hide
import Derived.Deep.QuietTactic
import Derived.BigQuiet
import Derived.Lib.QuietBelow
import Derived.Deep.RegionHeld3
import Derived.WalkLawsBesides
import Derived.WalkSpells
import Derived.Outline
import Derived.Deep.DeepFit
import Derived.Maps.AppendAt
import Derived.Deep.AppendLies
namespace Go.Proofs.Ytdkkjlapmaageaa.T3
set_option linter.unusedSimpArgs false
set_option linter.unusedVariables false
open Go.Shelf Go.RowKit Go.Lib Go.Sort
set_option maxRecDepth 100000
set_option maxHeartbeats 1000000
def encP (W H : Int) (p : Px) : List Value := [.int .i64 p.1.1, .int .i64 p.1.2, .int .i64 (pu W H p.1.1), .int .i64 (pv W H p.1.2)]
theorem swk_heap (enc : Px → List Value) (k : Nat) (w : World) (blk off n : Nat) (d : Array Px) (os : Array Obj) (b : Nat) (h1 : b ≠ blk) (h2 : b < w.heap.size) : (sortWorldK enc k w blk off n d os).heap[b]? = w.heap[b]? := by
  have h3 : ¬ blk = b := fun h => h1 h.symm
  show (Array.modify w.heap blk _ ++ os)[b]? = _
  rw [Array.getElem?_append, if_pos (by simpa using h2), Array.getElem?_modify, if_neg h3]
theorem swk_below (enc : Px → List Value) (k : Nat) (w : World) (blk off n : Nat) (d : Array Px) (os : Array Obj) (B : Nat) (hB : B ≤ blk) (hw : B ≤ w.heap.size) : RowKit.Below B w (sortWorldK enc k w blk off n d os) := by
  refine ⟨rfl, rfl, rfl, by simp [sortWorldK, putRowK, putRow, mapBlock, grow, ahead], fun i hi => ?_⟩
  exact swk_heap enc k w blk off n d os i (by omega) (by omega)
theorem sort_px (k W H : Int) (hW : 1 ≤ W ∧ W ≤ 16) (hH : 1 ≤ H ∧ H ≤ 16) (g b blk cap : Nat) (d : Array Px) (w : World) {t : TypeId} (hh : HoldsK (encP W H) 4 w blk 0 d) (hblk : blk < w.heap.size) (hsz : d.size < 4611686018427387904)
    (hb : w.heap[b]? = some (.cells #[.func (.func g) #[] #[]] t (0, 0))) (hne : b ≠ blk)
    (hcf : ∀ (args : Array Value) (w : World), (callFunc g args).run Try.prog w = .ok (.enter g args) w)
    (hval : ∀ (i j u v : Int) (w : World), sbd u v → Calls Try.prog g #[.agg #[.int .i64 i, .int .i64 j, .int .i64 u, .int .i64 v]] w fun e w' => e = .returned (.int .i64 (spv k u v)) ∧ Lays w w') :
    Calls Try.prog 31 #[.slice (some ⟨blk, 0, none⟩) d.size cap, .func (.func 32) #[] #[.pointer (some ⟨b, 0, none⟩)]] w fun e w' => e = .returned (.tuple #[]) ∧ ∃ d' n os, PermIn 0 d.size d d' ∧ SortedIn (ltOf (pcf k W H)) 0 d.size d' ∧ w' = sortWorldK (encP W H) 4 w blk 0 n d' os := by
  have hcmp : CmpLays Try.prog 32 #[.pointer (some ⟨b, 0, none⟩)] (encP W H) 4 (pcf k W H) blk 0 d.size w := by
    intro m os dk hs x y
    have hb' : (sortWorldK (encP W H) 4 w blk 0 m dk os).heap[b]? = some (.cells #[.func (.func g) #[] #[]] t (0, 0)) := (swk_heap _ _ _ _ _ _ _ _ _ hne (rw_lt hb)).trans hb
    exact clo_any k g b x.1.1 x.1.2 (pu W H x.1.1) (pv W H x.1.2) y.1.1 y.1.2 (pu W H y.1.1) (pv W H y.1.2) _ hb' hcf hval (pu_bd hW hH x) (pu_bd hW hH y)
  have eg : ∀ args w, (callFunc 32 args).run Try.prog w = .ok (.enter 32 args) w := fun _ _ => by rfl
  exact AnyQ.slices_SortFunc sortPx 4 (fun _ => by rfl) (fun _ => by rfl) (encP W H) (fun _ => rfl) (fun x v hv => by simp [encP] at hv; rcases hv with rfl | rfl | rfl | rfl <;> rfl) (pcf k W H) (plt_swo k W H) 32 #[.pointer (some ⟨b, 0, none⟩)] blk 0 cap d w eg hcmp hh hblk hsz
end Go.Proofs.Ytdkkjlapmaageaa.T3
