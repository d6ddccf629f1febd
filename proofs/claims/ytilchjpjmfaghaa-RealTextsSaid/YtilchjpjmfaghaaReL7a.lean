/- RealTexts: the walk. -/
import Derived.Test.YtilchjpjmfaghaaReLc
import Derived.Test.YtilchjpjmfaghaaOrd3
import Derived.Test.YtilchjpjmfaghaaDraF
import Derived.Lib.ConvBytes
import Derived.Lib.UnsafeStr
import Derived.Laws.BytesArg
import Derived.WalkKit
import Derived.Lib.Hide
import Derived.Deep.QuietTactic
import Derived.BigQuiet
import Derived.Lib.QuietBelow
import Derived.Deep.RegionHeld3
import Derived.WalkLawsBesides
import Derived.WalkSpells
import Derived.Outline
import Derived.Deep.DeepFit
import Derived.Maps.AppendAt
import Derived.Deep.AppendLies
import Derived.Deep.CutRange
import Derived.OpenShut
namespace Go.Proofs.Ytilchjpjmfaghaa.T3
set_option linter.unusedSimpArgs false
set_option linter.unusedVariables false
open Go.RowKit
attribute [local go_sem] Oper.semAt_some
set_option maxHeartbeats 4000000
set_option maxRecDepth 100000
theorem cutB_any (n : Int) (w : World) : Calls Try.prog 12 #[.int .i64 n] w fun e w' => e = .returned (.int .i64 (cutV n)) ∧ Below w.heap.size w w' := up0 (cut_any n w)
theorem at1 (a b : Int) (j : Nat) (hj : j < 2) : ∃ x : Int, ∀ w, Sem.run Try.prog (Instr.index 23 (.agg #[.int .i64 a, .int .i64 b]) (.int .i64 j)) w = .ok (.int .i64 x) w := by
  have h4 : j = 0 ∨ j = 1 := by omega
  rcases h4 with rfl | rfl
  · exact ⟨a, fun _ => rfl⟩
  · exact ⟨b, fun _ => rfl⟩

theorem at3s (a b c : ByteArray) (j : Nat) (hj : j < 3) (ha : a.size ≤ 9223372036854775807) (hb : b.size ≤ 9223372036854775807) (hc : c.size ≤ 9223372036854775807) : ∃ x : ByteArray, x.size ≤ 9223372036854775807 ∧ ∀ w, Sem.run Try.prog (Instr.index 36 (.agg #[.string a, .string b, .string c]) (.int .i64 j)) w = .ok (.string x) w := by
  have h4 : j = 0 ∨ j = 1 ∨ j = 2 := by omega
  rcases h4 with rfl | rfl | rfl
  · exact ⟨a, ha, fun _ => rfl⟩
  · exact ⟨b, hb, fun _ => rfl⟩
  · exact ⟨c, hc, fun _ => rfl⟩
def C16 : ByteArray := ⟨#[48, 49, 50, 51, 52, 53, 54, 55, 56, 57, 46, 101, 69, 43, 45, 32]⟩
theorem at16 (j : Int) (h0 : 0 ≤ j) (h1 : j < 16) : ∃ c : Int, ∀ w, Sem.run Try.prog (Instr.index 9 (.string ⟨#[48, 49, 50, 51, 52, 53, 54, 55, 56, 57, 46, 101, 69, 43, 45, 32]⟩) (.int .u8 j)) w = .ok (.int .u8 c) w := by
  have h4 : j = 0 ∨ j = 1 ∨ j = 2 ∨ j = 3 ∨ j = 4 ∨ j = 5 ∨ j = 6 ∨ j = 7 ∨ j = 8 ∨ j = 9 ∨ j = 10 ∨ j = 11 ∨ j = 12 ∨ j = 13 ∨ j = 14 ∨ j = 15 := by omega
  rcases h4 with rfl | rfl | rfl | rfl | rfl | rfl | rfl | rfl | rfl | rfl | rfl | rfl | rfl | rfl | rfl | rfl <;> exact ⟨_, fun _ => rfl⟩
theorem str_in (a : Int) : (isB a = true → rsS [a] (prS a) = prS a ∧ rsN [a] = 0) ∧ (isB a = false → rsS [a] (prS a) = ⟨#[]⟩ ∧ rsN [a] = 2) := by
  constructor
  · intro h
    have : allR [a] = true := by simpa [allR] using h
    unfold rsS rsN
    rw [if_pos this, if_pos this]
    exact ⟨rfl, rfl⟩
  · intro h
    have : allR [a] = false := by simpa [allR] using h
    unfold rsS rsN
    rw [this]
    exact ⟨rfl, rfl⟩
theorem print_both (a : Int) : (isB a = true ∧ ∃ S, (∀ w, Calls Try.prog 18 #[.int .i64 a] w fun e w' => e = .returned (.tuple #[.string S, .int .i64 0]) ∧ Below w.heap.size w w') ∧ (∀ w, Calls Try.prog 20 #[.int .i64 a] w fun e w' => e = .returned (.string S) ∧ Below w.heap.size w w'))
    ∨ (isB a = false ∧ ∀ w, Calls Try.prog 18 #[.int .i64 a] w fun e w' => e = .returned (.tuple #[.string ⟨#[]⟩, .int .i64 2]) ∧ Below w.heap.size w w') := by
  cases h : isB a
  · refine .inr ⟨rfl, fun w => ?_⟩
    have := mprint_any a w
    rwa [((str_in a).2 h).1, ((str_in a).2 h).2] at this
  · refine .inl ⟨rfl, prS a, fun w => ?_, fun w => rprint_any a w ((isB_iff a).1 h)⟩
    have := mprint_any a w
    rwa [((str_in a).1 h).1, ((str_in a).1 h).2] at this
theorem own_str (n : Int) : ∃ S : ByteArray, 1 ≤ S.size ∧ S.size ≤ 40 ∧ ∀ w, Calls Try.prog 20 #[.int .i64 (cutV n)] w fun e w' => e = .returned (.string S) ∧ Below w.heap.size w w' := by
  have h := cutV_bd n
  refine ⟨prS (cutV n), ?_, ?_, fun w => rprint_any _ w h⟩
  · have : prS (cutV n) = bA (prM (cutV n)) := rfl
    rw [this, bA_size]
    unfold prM
    simp
    omega
  · have : prS (cutV n) = bA (prM (cutV n)) := rfl
    rw [this, bA_size]
    unfold prM wds
    obtain ⟨b, hb⟩ : ∃ b, (if cutV n < 0 then -cutV n else cutV n) = b := ⟨_, rfl⟩
    have hb1 : 0 ≤ b ∧ b ≤ 2147483648 := by rw [← hb]; split <;> omega
    have hk := (kd_has (n := b / 65536) (by omega) (by omega)).1
    have hf := ff_len 17 (b % 65536)
    have hs : (if cutV n < 0 then [45] else [] : List Int).length ≤ 1 := by split <;> simp
    rw [hb]
    simp only [List.length_append, upto_length, List.length_cons, List.length_nil]
    omega
theorem conv_oct {w : World} {b len cap : Nat} (h : ∀ i, i < len → ∃ v : Int, w.cell? ⟨b, i, none⟩ = some (.int .u8 v)) :
    ∃ T : ByteArray, T.size = len ∧ ∀ w' : World, (∀ i, i < len → w'.cell? ⟨b, i, none⟩ = w.cell? ⟨b, i, none⟩) → (convert 35 9 (.slice (some ⟨b, 0, none⟩) len cap)).run Try.prog w' = .ok (.string T) w' := by
  have hex : ∃ f : Nat → Int, ∀ i, i < len → w.cell? ⟨b, i, none⟩ = some (.int .u8 (f i)) := by
    refine ⟨fun i => if hi : i < len then (h i hi).choose else 0, fun i hi => ?_⟩
    simp only [hi, dif_pos]
    exact (h i hi).choose_spec
  obtain ⟨f, hf⟩ := hex
  refine ⟨_, ?_, fun w' hw => run_convert_bytes_arg (P := Try.prog) w' 35 5 Try.underlying35 Try.underlying5 b 0 len cap ((List.range len).map f) (by simp) (fun i hi => ?_) 9 Try.underlying9⟩
  · simp [strOfNums, ByteArray.size]
  · rw [Nat.zero_add, hw i hi, hf i hi]
    simp [List.getD_eq_getElem?_getD, hi]
theorem bw_below (w : World) (e : TypeId) (s : ByteArray) : Below w.heap.size w (Lib.bytesWorld w e s) :=
  Lib.below_freeze ((Below.drew (Below.refl _ w)).alloc (Nat.le_refl _) _) (p := ⟨w.heap.size, _, none⟩) (Nat.le_refl _) 1
theorem own_new (S : ByteArray) (u : World) : ∃ W cap, (∀ w, w = u → (convert 9 35 (.string S)).run Try.prog w = .ok (.slice (some ⟨u.heap.size, 0, none⟩) S.size cap) W) ∧ Below u.heap.size u W ∧ W.heap.size = u.heap.size + 1 ∧ (∀ i, i < S.size → ∃ v : Int, W.cell? ⟨u.heap.size, i, none⟩ = some (.int .u8 v)) ∧ (∀ i, i < S.size → W.frozen? ⟨u.heap.size, i, none⟩ = false) := by
  refine ⟨Lib.bytesWorld u 5 S, grownCap u S.size 0 5, fun w hw => by rw [hw]; exact Lib.run_convert_string_bytes u 9 35 5 S Try.underlying9 Try.underlying35 Try.underlying5, bw_below _ _ _, Lib.bytesWorld_size _ _ _, fun i hi => ⟨_, Lib.bytesWorld_cell u _ S i hi⟩, fun i hi => ?_⟩
  · have hsz : S.size ≤ (Lib.bytesCells u 5 S).size := by
      simp [Lib.bytesCells]
    simp [World.frozen?, Lib.bytesWorld_at_new]
    omega
end Go.Proofs.Ytilchjpjmfaghaa.T3
