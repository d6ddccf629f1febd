/- chapter 01: strings.Builder: WriteByte. -/
import Derived.Test.YtilchjpjmfaghaaReD
import Derived.Test.YtilchjpjmfaghaaReO
import Derived.Lib.OthersKept
import Derived.WalkKit
import Derived.Lib.Hide
import Derived.Deep.QuietTactic
import Derived.BigQuiet
import Derived.Lib.QuietBelow
import Derived.Deep.RegionHeld3
import Derived.WalkLawsBesides
import Derived.WalkSpells
import Derived.Outline
import Derived.Deep.DeepFit
import Derived.Maps.AppendAt
import Derived.Deep.AppendLies
import Derived.Deep.CutRange
namespace Go.Proofs.Ytilchjpjmfaghaa.T3
set_option linter.unusedSimpArgs false
set_option linter.unusedVariables false
open Go.RowKit Go.Lib Go.Shelf
set_option maxHeartbeats 2000000
set_option maxRecDepth 100000
theorem size_builder : (Try.prog.info? 53).map (fun i => i.size) = some 2 := by kernel_rfl
theorem cc_any (B b : Nat) (bs : List Value) (w : World) (h : Lib.IsBuilder 53 5 B b bs w) :
    Calls Try.prog 72 #[.pointer (some ⟨b, 0, none⟩)] w fun e w' => e = .returned (.tuple #[]) ∧ Lib.BuilderAt 53 5 B b (.pointer (some ⟨b, 0, none⟩)) bs w' ∧ Below B w w' ∧ Lib.OthersKept 5 (some b) w w' := by
  obtain ⟨j, hj, hjs⟩ := Option.map_eq_some_iff.1 size_builder
  rcases h with h | h
  · have h0 := h.cell0
    have hf0 := h.frozen0
    have hsh := h.shape
    have hlt := h.lt
    have Hh := Lib.hid h
    clear h
    go_enter Try.func72, Try.ntmps72
    go_wp2_with fail
    rw [Lib.run_to_unsafe w ⟨b, 0, none⟩ Try.underlying51 Try.underlying87 hj (by rw [hjs]; decide) hsh (Nat.zero_lt_succ 1)]
    simp only [Result.andThen]
    rw [Oper.upon_value]
    go_wp2_with fail
    rw [run_callFunc_extern Try.func79 (by kernel_rfl) (by kernel_rfl) (by kernel_rfl) (e := Extern.AbiNoEscape.same) (by kernel_rfl)]
    rw [Lib.run_noEscape]
    simp only [Result.andThen]
    rw [Oper.upon_value]
    go_wp2_with fail
    rw [Lib.run_from_unsafe w ⟨b, 0, none⟩ Try.underlying87 Try.underlying51 hj hsh (by kernel_rfl)]
    simp only [Result.andThen]
    rw [Oper.upon_value]
    go_wp2_with fail
    go_end0
    exact ⟨rfl, Hh.out.used _, (Below.refl B w).setCell (p := ⟨b, 0, none⟩) Hh.out.1 _, (Lib.OthersKept.refl _ _ w).setCell ⟨b, 0, none⟩ rfl _⟩
  · have h0 := h.cell0
    have Hh := Lib.hid h
    clear h
    go_enter Try.func72, Try.ntmps72
    go_wp2_with fail
    rw [Lib.run_neq_ptr_same w _ Try.underlying51 hj]
    go_wp2_with fail
    go_end0
    exact ⟨rfl, Hh.out, Below.refl B _, Lib.OthersKept.refl _ _ _⟩
theorem wb_any (B b : Nat) (bs : List Value) (c : Int) (w : World) (h : Lib.IsBuilder 53 5 B b bs w) (hlen : bs.length ≤ 1000) (hBw : B ≤ w.heap.size) :
    Calls Try.prog 52 #[.pointer (some ⟨b, 0, none⟩), .int .u8 c] w fun e w' => e = .returned .nilIface ∧ Lib.BuilderAt 53 5 B b (.pointer (some ⟨b, 0, none⟩)) (bs ++ [.int .u8 c]) w' ∧ Below B w w' ∧ Lib.OthersKept 5 (some b) w w' := by
  obtain ⟨i0, hi, hz0, hz1, hz2⟩ := info_split info_u8
  have Hcc := Lib.hid (cc_any B b bs w h)
  clear h
  go_enter Try.func52, Try.ntmps52
  go_wp2_with fail
  refine Hcc.out.mono ?_
  rintro e w1 ⟨rfl, h1, hb1, ho1⟩
  obtain ⟨hB, v, hbk, hown, hne⟩ := h1
  obtain ⟨c0, c1⟩ := cel2 hbk
  have hlt := rw_lt hbk
  have hs1 := hb1.size
  go_wp2_with (at_builtin; refine wpList_append_own _ rfl _ _ 35 rfl B 5 i0 (.int .u8 0) 1 1 Try.underlying35 hi hz0 hz1 hz2 rfl (by decide) _ _ _ rfl (hown.alloc _) ⟨w1.heap.size, 0, none⟩ 1 1 [.int .u8 c] rfl rfl (one_cell w1 _ _) ?c2 ?c3 ?c4 ?c5 ?_)
  case c2 => intro u hu; simp at hu; subst hu; rfl
  case c3 => unfold maxLen; omega
  case c4 => omega
  case c5 => simp; omega
  intro v' w2 hown' hgrow _
  have hb2 : w2.heap[b]? = some (.cells #[.pointer (some ⟨b, 0, none⟩), v] 53 (0, 0)) := rw_grown hgrow (fun e => hne e.symm) (rw_alloc hbk)
  obtain ⟨d0, d1⟩ := cel2 hb2
  have f1 : w2.frozen? ⟨b, 1, none⟩ = false := Lib.frozen_of_heap hb2 1
  obtain ⟨g, cap, rfl⟩ := ownsRow_succ hown'
  have hBel : RowKit.Below B w w2 := (hb1.alloc (by omega) _).grown hgrow (by simp; omega) (fun k hk => (hown.lt k hk).1)
  have hO : Lib.OthersKept 5 (some b) w w2 := (ho1.alloc _).grown hgrow (Lib.ownsRowF_kind (World.ownsRowF_of (hown.alloc _)))
  go_wp2_with fail
  go_ret
  exact ⟨rfl, Lib.BuilderAt.put (T := 53) (e := 5) hB hb2 (bs' := bs ++ [.int .u8 c]) (by simpa using hown') (by decide), hBel.setCell (p := ⟨b, 1, none⟩) hB _, hO.setCell ⟨b, 1, none⟩ rfl _⟩
end Go.Proofs.Ytilchjpjmfaghaa.T3
