/- RealKnown: the walk. -/
import Derived.Test.YtilchjpjmfaghaaReLb
import Derived.Test.YtilchjpjmfaghaaOrd3
import Derived.WalkKit
import Derived.Lib.Hide
import Derived.Deep.QuietTactic
import Derived.BigQuiet
import Derived.Lib.QuietBelow
import Derived.Deep.RegionHeld3
import Derived.WalkLawsBesides
import Derived.WalkSpells
import Derived.Outline
import Derived.Deep.DeepFit
import Derived.Maps.AppendAt
import Derived.Deep.AppendLies
import Derived.Deep.CutRange
import Derived.OpenShut
import Derived.Deep.MidRow
namespace Go.Proofs.Ytilchjpjmfaghaa.T3
set_option linter.unusedSimpArgs false
set_option linter.unusedVariables false
open Go.RowKit
attribute [local go_sem] Oper.semAt_some
set_option maxHeartbeats 4000000
set_option maxRecDepth 100000
def tab : Array Value := #[.string ⟨#[51, 50, 55, 54, 56]⟩, .int .i64 2147483648, .int .i64 0, .string ⟨#[45, 51, 50, 55, 54, 56]⟩, .int .i64 (-2147483648), .int .i64 0, .string ⟨#[45, 46, 53]⟩, .int .i64 (-32768), .int .i64 0, .string ⟨#[43, 55, 46]⟩, .int .i64 458752, .int .i64 0, .string ⟨#[48, 46, 48, 48, 48, 48, 48, 55, 54, 50, 57, 51, 57, 52, 53, 51, 49, 50, 53]⟩, .int .i64 1, .int .i64 0, .string ⟨#[45, 48, 46, 48, 48, 48, 48, 48, 55, 54, 50, 57, 51, 57, 52, 53, 51, 49, 50, 53]⟩, .int .i64 0, .int .i64 0, .string ⟨#[45, 48, 46, 48, 48, 48, 48, 48, 55, 54, 50, 57, 51, 57, 52, 53, 51, 49, 50, 54]⟩, .int .i64 (-1), .int .i64 0, .string ⟨#[48, 46, 48, 48, 48, 48, 48, 55, 54, 50, 57, 51, 57, 52, 53, 51, 49, 50, 52]⟩, .int .i64 0, .int .i64 0, .string ⟨#[49, 69, 51]⟩, .int .i64 65536000, .int .i64 0, .string ⟨#[48, 101, 57, 57, 57]⟩, .int .i64 0, .int .i64 0, .string ⟨#[49, 101, 45, 57, 57, 57]⟩, .int .i64 0, .int .i64 0, .string ⟨#[51, 50, 55, 54, 56, 46, 48, 48, 48, 48, 48, 55]⟩, .int .i64 2147483648, .int .i64 0, .string ⟨#[51, 50, 55, 54, 56, 46, 48, 48, 48, 48, 48, 56]⟩, .int .i64 0, .int .i64 6, .string ⟨#[49, 101, 57, 57, 57]⟩, .int .i64 0, .int .i64 6, .string ⟨#[]⟩, .int .i64 0, .int .i64 5, .string ⟨#[46]⟩, .int .i64 0, .int .i64 5, .string ⟨#[49, 101]⟩, .int .i64 0, .int .i64 5, .string ⟨#[49, 101, 49, 50, 51, 52]⟩, .int .i64 0, .int .i64 5, .string ⟨#[45, 45, 49]⟩, .int .i64 0, .int .i64 5, .string ⟨#[49, 32]⟩, .int .i64 0, .int .i64 5, .string ⟨#[101, 53]⟩, .int .i64 0, .int .i64 5, .string ⟨#[48, 48, 48, 48, 48, 48, 48, 48, 48, 48, 48, 48, 48, 48, 48, 48, 48, 48, 48, 48, 48, 48, 48, 48, 48, 48, 48, 48, 48, 48, 48, 48, 48, 48, 48, 48, 48, 48, 48, 49]⟩, .int .i64 65536, .int .i64 0, .string ⟨#[48, 48, 48, 48, 48, 48, 48, 48, 48, 48, 48, 48, 48, 48, 48, 48, 48, 48, 48, 48, 48, 48, 48, 48, 48, 48, 48, 48, 48, 48, 48, 48, 48, 48, 48, 48, 48, 48, 48, 48, 49]⟩, .int .i64 0, .int .i64 3]
theorem t0 (w : World) : Calls Try.prog 21 #[.string ⟨#[51, 50, 55, 54, 56]⟩] w fun e w' => e = .returned (.tuple #[.int .i64 2147483648, .int .i64 0]) ∧ Below w.heap.size w w' :=
  (mparse_any ⟨#[51, 50, 55, 54, 56]⟩ w (by decide)).mono (by rintro e w' ⟨rfl, h⟩; exact ⟨by rw [show pV ⟨#[51, 50, 55, 54, 56]⟩ = 2147483648 by decide +kernel, show pE ⟨#[51, 50, 55, 54, 56]⟩ = 0 by decide +kernel], h⟩)
theorem t1 (w : World) : Calls Try.prog 21 #[.string ⟨#[45, 51, 50, 55, 54, 56]⟩] w fun e w' => e = .returned (.tuple #[.int .i64 (-2147483648), .int .i64 0]) ∧ Below w.heap.size w w' :=
  (mparse_any ⟨#[45, 51, 50, 55, 54, 56]⟩ w (by decide)).mono (by rintro e w' ⟨rfl, h⟩; exact ⟨by rw [show pV ⟨#[45, 51, 50, 55, 54, 56]⟩ = (-2147483648) by decide +kernel, show pE ⟨#[45, 51, 50, 55, 54, 56]⟩ = 0 by decide +kernel], h⟩)
theorem t2 (w : World) : Calls Try.prog 21 #[.string ⟨#[45, 46, 53]⟩] w fun e w' => e = .returned (.tuple #[.int .i64 (-32768), .int .i64 0]) ∧ Below w.heap.size w w' :=
  (mparse_any ⟨#[45, 46, 53]⟩ w (by decide)).mono (by rintro e w' ⟨rfl, h⟩; exact ⟨by rw [show pV ⟨#[45, 46, 53]⟩ = (-32768) by decide +kernel, show pE ⟨#[45, 46, 53]⟩ = 0 by decide +kernel], h⟩)
theorem t3 (w : World) : Calls Try.prog 21 #[.string ⟨#[43, 55, 46]⟩] w fun e w' => e = .returned (.tuple #[.int .i64 458752, .int .i64 0]) ∧ Below w.heap.size w w' :=
  (mparse_any ⟨#[43, 55, 46]⟩ w (by decide)).mono (by rintro e w' ⟨rfl, h⟩; exact ⟨by rw [show pV ⟨#[43, 55, 46]⟩ = 458752 by decide +kernel, show pE ⟨#[43, 55, 46]⟩ = 0 by decide +kernel], h⟩)
theorem t4 (w : World) : Calls Try.prog 21 #[.string ⟨#[48, 46, 48, 48, 48, 48, 48, 55, 54, 50, 57, 51, 57, 52, 53, 51, 49, 50, 53]⟩] w fun e w' => e = .returned (.tuple #[.int .i64 1, .int .i64 0]) ∧ Below w.heap.size w w' :=
  (mparse_any ⟨#[48, 46, 48, 48, 48, 48, 48, 55, 54, 50, 57, 51, 57, 52, 53, 51, 49, 50, 53]⟩ w (by decide)).mono (by rintro e w' ⟨rfl, h⟩; exact ⟨by rw [show pV ⟨#[48, 46, 48, 48, 48, 48, 48, 55, 54, 50, 57, 51, 57, 52, 53, 51, 49, 50, 53]⟩ = 1 by decide +kernel, show pE ⟨#[48, 46, 48, 48, 48, 48, 48, 55, 54, 50, 57, 51, 57, 52, 53, 51, 49, 50, 53]⟩ = 0 by decide +kernel], h⟩)
theorem t5 (w : World) : Calls Try.prog 21 #[.string ⟨#[45, 48, 46, 48, 48, 48, 48, 48, 55, 54, 50, 57, 51, 57, 52, 53, 51, 49, 50, 53]⟩] w fun e w' => e = .returned (.tuple #[.int .i64 0, .int .i64 0]) ∧ Below w.heap.size w w' :=
  (mparse_any ⟨#[45, 48, 46, 48, 48, 48, 48, 48, 55, 54, 50, 57, 51, 57, 52, 53, 51, 49, 50, 53]⟩ w (by decide)).mono (by rintro e w' ⟨rfl, h⟩; exact ⟨by rw [show pV ⟨#[45, 48, 46, 48, 48, 48, 48, 48, 55, 54, 50, 57, 51, 57, 52, 53, 51, 49, 50, 53]⟩ = 0 by decide +kernel, show pE ⟨#[45, 48, 46, 48, 48, 48, 48, 48, 55, 54, 50, 57, 51, 57, 52, 53, 51, 49, 50, 53]⟩ = 0 by decide +kernel], h⟩)
theorem t6 (w : World) : Calls Try.prog 21 #[.string ⟨#[45, 48, 46, 48, 48, 48, 48, 48, 55, 54, 50, 57, 51, 57, 52, 53, 51, 49, 50, 54]⟩] w fun e w' => e = .returned (.tuple #[.int .i64 (-1), .int .i64 0]) ∧ Below w.heap.size w w' :=
  (mparse_any ⟨#[45, 48, 46, 48, 48, 48, 48, 48, 55, 54, 50, 57, 51, 57, 52, 53, 51, 49, 50, 54]⟩ w (by decide)).mono (by rintro e w' ⟨rfl, h⟩; exact ⟨by rw [show pV ⟨#[45, 48, 46, 48, 48, 48, 48, 48, 55, 54, 50, 57, 51, 57, 52, 53, 51, 49, 50, 54]⟩ = (-1) by decide +kernel, show pE ⟨#[45, 48, 46, 48, 48, 48, 48, 48, 55, 54, 50, 57, 51, 57, 52, 53, 51, 49, 50, 54]⟩ = 0 by decide +kernel], h⟩)
theorem t7 (w : World) : Calls Try.prog 21 #[.string ⟨#[48, 46, 48, 48, 48, 48, 48, 55, 54, 50, 57, 51, 57, 52, 53, 51, 49, 50, 52]⟩] w fun e w' => e = .returned (.tuple #[.int .i64 0, .int .i64 0]) ∧ Below w.heap.size w w' :=
  (mparse_any ⟨#[48, 46, 48, 48, 48, 48, 48, 55, 54, 50, 57, 51, 57, 52, 53, 51, 49, 50, 52]⟩ w (by decide)).mono (by rintro e w' ⟨rfl, h⟩; exact ⟨by rw [show pV ⟨#[48, 46, 48, 48, 48, 48, 48, 55, 54, 50, 57, 51, 57, 52, 53, 51, 49, 50, 52]⟩ = 0 by decide +kernel, show pE ⟨#[48, 46, 48, 48, 48, 48, 48, 55, 54, 50, 57, 51, 57, 52, 53, 51, 49, 50, 52]⟩ = 0 by decide +kernel], h⟩)
theorem t8 (w : World) : Calls Try.prog 21 #[.string ⟨#[49, 69, 51]⟩] w fun e w' => e = .returned (.tuple #[.int .i64 65536000, .int .i64 0]) ∧ Below w.heap.size w w' :=
  (mparse_any ⟨#[49, 69, 51]⟩ w (by decide)).mono (by rintro e w' ⟨rfl, h⟩; exact ⟨by rw [show pV ⟨#[49, 69, 51]⟩ = 65536000 by decide +kernel, show pE ⟨#[49, 69, 51]⟩ = 0 by decide +kernel], h⟩)
theorem t9 (w : World) : Calls Try.prog 21 #[.string ⟨#[48, 101, 57, 57, 57]⟩] w fun e w' => e = .returned (.tuple #[.int .i64 0, .int .i64 0]) ∧ Below w.heap.size w w' :=
  (mparse_any ⟨#[48, 101, 57, 57, 57]⟩ w (by decide)).mono (by rintro e w' ⟨rfl, h⟩; exact ⟨by rw [show pV ⟨#[48, 101, 57, 57, 57]⟩ = 0 by decide +kernel, show pE ⟨#[48, 101, 57, 57, 57]⟩ = 0 by decide +kernel], h⟩)
theorem t10 (w : World) : Calls Try.prog 21 #[.string ⟨#[49, 101, 45, 57, 57, 57]⟩] w fun e w' => e = .returned (.tuple #[.int .i64 0, .int .i64 0]) ∧ Below w.heap.size w w' :=
  (mparse_any ⟨#[49, 101, 45, 57, 57, 57]⟩ w (by decide)).mono (by rintro e w' ⟨rfl, h⟩; exact ⟨by rw [show pV ⟨#[49, 101, 45, 57, 57, 57]⟩ = 0 by decide +kernel, show pE ⟨#[49, 101, 45, 57, 57, 57]⟩ = 0 by decide +kernel], h⟩)
theorem t11 (w : World) : Calls Try.prog 21 #[.string ⟨#[51, 50, 55, 54, 56, 46, 48, 48, 48, 48, 48, 55]⟩] w fun e w' => e = .returned (.tuple #[.int .i64 2147483648, .int .i64 0]) ∧ Below w.heap.size w w' :=
  (mparse_any ⟨#[51, 50, 55, 54, 56, 46, 48, 48, 48, 48, 48, 55]⟩ w (by decide)).mono (by rintro e w' ⟨rfl, h⟩; exact ⟨by rw [show pV ⟨#[51, 50, 55, 54, 56, 46, 48, 48, 48, 48, 48, 55]⟩ = 2147483648 by decide +kernel, show pE ⟨#[51, 50, 55, 54, 56, 46, 48, 48, 48, 48, 48, 55]⟩ = 0 by decide +kernel], h⟩)
theorem t12 (w : World) : Calls Try.prog 21 #[.string ⟨#[51, 50, 55, 54, 56, 46, 48, 48, 48, 48, 48, 56]⟩] w fun e w' => e = .returned (.tuple #[.int .i64 0, .int .i64 6]) ∧ Below w.heap.size w w' :=
  (mparse_any ⟨#[51, 50, 55, 54, 56, 46, 48, 48, 48, 48, 48, 56]⟩ w (by decide)).mono (by rintro e w' ⟨rfl, h⟩; exact ⟨by rw [show pV ⟨#[51, 50, 55, 54, 56, 46, 48, 48, 48, 48, 48, 56]⟩ = 0 by decide +kernel, show pE ⟨#[51, 50, 55, 54, 56, 46, 48, 48, 48, 48, 48, 56]⟩ = 6 by decide +kernel], h⟩)
theorem t13 (w : World) : Calls Try.prog 21 #[.string ⟨#[49, 101, 57, 57, 57]⟩] w fun e w' => e = .returned (.tuple #[.int .i64 0, .int .i64 6]) ∧ Below w.heap.size w w' :=
  (mparse_any ⟨#[49, 101, 57, 57, 57]⟩ w (by decide)).mono (by rintro e w' ⟨rfl, h⟩; exact ⟨by rw [show pV ⟨#[49, 101, 57, 57, 57]⟩ = 0 by decide +kernel, show pE ⟨#[49, 101, 57, 57, 57]⟩ = 6 by decide +kernel], h⟩)
theorem t14 (w : World) : Calls Try.prog 21 #[.string ⟨#[]⟩] w fun e w' => e = .returned (.tuple #[.int .i64 0, .int .i64 5]) ∧ Below w.heap.size w w' :=
  (mparse_any ⟨#[]⟩ w (by decide)).mono (by rintro e w' ⟨rfl, h⟩; exact ⟨by rw [show pV ⟨#[]⟩ = 0 by decide +kernel, show pE ⟨#[]⟩ = 5 by decide +kernel], h⟩)
theorem t15 (w : World) : Calls Try.prog 21 #[.string ⟨#[46]⟩] w fun e w' => e = .returned (.tuple #[.int .i64 0, .int .i64 5]) ∧ Below w.heap.size w w' :=
  (mparse_any ⟨#[46]⟩ w (by decide)).mono (by rintro e w' ⟨rfl, h⟩; exact ⟨by rw [show pV ⟨#[46]⟩ = 0 by decide +kernel, show pE ⟨#[46]⟩ = 5 by decide +kernel], h⟩)
theorem t16 (w : World) : Calls Try.prog 21 #[.string ⟨#[49, 101]⟩] w fun e w' => e = .returned (.tuple #[.int .i64 0, .int .i64 5]) ∧ Below w.heap.size w w' :=
  (mparse_any ⟨#[49, 101]⟩ w (by decide)).mono (by rintro e w' ⟨rfl, h⟩; exact ⟨by rw [show pV ⟨#[49, 101]⟩ = 0 by decide +kernel, show pE ⟨#[49, 101]⟩ = 5 by decide +kernel], h⟩)
theorem t17 (w : World) : Calls Try.prog 21 #[.string ⟨#[49, 101, 49, 50, 51, 52]⟩] w fun e w' => e = .returned (.tuple #[.int .i64 0, .int .i64 5]) ∧ Below w.heap.size w w' :=
  (mparse_any ⟨#[49, 101, 49, 50, 51, 52]⟩ w (by decide)).mono (by rintro e w' ⟨rfl, h⟩; exact ⟨by rw [show pV ⟨#[49, 101, 49, 50, 51, 52]⟩ = 0 by decide +kernel, show pE ⟨#[49, 101, 49, 50, 51, 52]⟩ = 5 by decide +kernel], h⟩)
theorem t18 (w : World) : Calls Try.prog 21 #[.string ⟨#[45, 45, 49]⟩] w fun e w' => e = .returned (.tuple #[.int .i64 0, .int .i64 5]) ∧ Below w.heap.size w w' :=
  (mparse_any ⟨#[45, 45, 49]⟩ w (by decide)).mono (by rintro e w' ⟨rfl, h⟩; exact ⟨by rw [show pV ⟨#[45, 45, 49]⟩ = 0 by decide +kernel, show pE ⟨#[45, 45, 49]⟩ = 5 by decide +kernel], h⟩)
theorem t19 (w : World) : Calls Try.prog 21 #[.string ⟨#[49, 32]⟩] w fun e w' => e = .returned (.tuple #[.int .i64 0, .int .i64 5]) ∧ Below w.heap.size w w' :=
  (mparse_any ⟨#[49, 32]⟩ w (by decide)).mono (by rintro e w' ⟨rfl, h⟩; exact ⟨by rw [show pV ⟨#[49, 32]⟩ = 0 by decide +kernel, show pE ⟨#[49, 32]⟩ = 5 by decide +kernel], h⟩)
theorem t20 (w : World) : Calls Try.prog 21 #[.string ⟨#[101, 53]⟩] w fun e w' => e = .returned (.tuple #[.int .i64 0, .int .i64 5]) ∧ Below w.heap.size w w' :=
  (mparse_any ⟨#[101, 53]⟩ w (by decide)).mono (by rintro e w' ⟨rfl, h⟩; exact ⟨by rw [show pV ⟨#[101, 53]⟩ = 0 by decide +kernel, show pE ⟨#[101, 53]⟩ = 5 by decide +kernel], h⟩)
theorem t21 (w : World) : Calls Try.prog 21 #[.string ⟨#[48, 48, 48, 48, 48, 48, 48, 48, 48, 48, 48, 48, 48, 48, 48, 48, 48, 48, 48, 48, 48, 48, 48, 48, 48, 48, 48, 48, 48, 48, 48, 48, 48, 48, 48, 48, 48, 48, 48, 49]⟩] w fun e w' => e = .returned (.tuple #[.int .i64 65536, .int .i64 0]) ∧ Below w.heap.size w w' :=
  (mparse_any ⟨#[48, 48, 48, 48, 48, 48, 48, 48, 48, 48, 48, 48, 48, 48, 48, 48, 48, 48, 48, 48, 48, 48, 48, 48, 48, 48, 48, 48, 48, 48, 48, 48, 48, 48, 48, 48, 48, 48, 48, 49]⟩ w (by decide)).mono (by rintro e w' ⟨rfl, h⟩; exact ⟨by rw [show pV ⟨#[48, 48, 48, 48, 48, 48, 48, 48, 48, 48, 48, 48, 48, 48, 48, 48, 48, 48, 48, 48, 48, 48, 48, 48, 48, 48, 48, 48, 48, 48, 48, 48, 48, 48, 48, 48, 48, 48, 48, 49]⟩ = 65536 by decide +kernel, show pE ⟨#[48, 48, 48, 48, 48, 48, 48, 48, 48, 48, 48, 48, 48, 48, 48, 48, 48, 48, 48, 48, 48, 48, 48, 48, 48, 48, 48, 48, 48, 48, 48, 48, 48, 48, 48, 48, 48, 48, 48, 49]⟩ = 0 by decide +kernel], h⟩)
theorem t22 (w : World) : Calls Try.prog 21 #[.string ⟨#[48, 48, 48, 48, 48, 48, 48, 48, 48, 48, 48, 48, 48, 48, 48, 48, 48, 48, 48, 48, 48, 48, 48, 48, 48, 48, 48, 48, 48, 48, 48, 48, 48, 48, 48, 48, 48, 48, 48, 48, 49]⟩] w fun e w' => e = .returned (.tuple #[.int .i64 0, .int .i64 3]) ∧ Below w.heap.size w w' :=
  (mparse_any ⟨#[48, 48, 48, 48, 48, 48, 48, 48, 48, 48, 48, 48, 48, 48, 48, 48, 48, 48, 48, 48, 48, 48, 48, 48, 48, 48, 48, 48, 48, 48, 48, 48, 48, 48, 48, 48, 48, 48, 48, 48, 49]⟩ w (by decide)).mono (by rintro e w' ⟨rfl, h⟩; exact ⟨by rw [show pV ⟨#[48, 48, 48, 48, 48, 48, 48, 48, 48, 48, 48, 48, 48, 48, 48, 48, 48, 48, 48, 48, 48, 48, 48, 48, 48, 48, 48, 48, 48, 48, 48, 48, 48, 48, 48, 48, 48, 48, 48, 48, 49]⟩ = 0 by decide +kernel, show pE ⟨#[48, 48, 48, 48, 48, 48, 48, 48, 48, 48, 48, 48, 48, 48, 48, 48, 48, 48, 48, 48, 48, 48, 48, 48, 48, 48, 48, 48, 48, 48, 48, 48, 48, 48, 48, 48, 48, 48, 48, 48, 49]⟩ = 3 by decide +kernel], h⟩)
theorem three {p : Nat → Prop} (h : p 0 ∧ p 1 ∧ p 2) : ∀ j, j < 3 → p j := by
  intro j hj
  obtain ⟨h0, h1, h2⟩ := h
  have hc : j = 0 ∨ j = 1 ∨ j = 2 := by omega
  rcases hc with rfl | rfl | rfl <;> assumption
theorem tab_at (i : Nat) (hi : i < 23) : ∃ (S : ByteArray) (V E : Int), (∀ w, Calls Try.prog 21 #[.string S] w fun e w' => e = .returned (.tuple #[.int .i64 V, .int .i64 E]) ∧ Below w.heap.size w w') ∧ ∀ j, j < 3 → tab[i * 3 + j]? = (#[Value.string S, .int .i64 V, .int .i64 E] : Array Value)[j]? := by
  have hc : i = 0 ∨ i = 1 ∨ i = 2 ∨ i = 3 ∨ i = 4 ∨ i = 5 ∨ i = 6 ∨ i = 7 ∨ i = 8 ∨ i = 9 ∨ i = 10 ∨ i = 11 ∨ i = 12 ∨ i = 13 ∨ i = 14 ∨ i = 15 ∨ i = 16 ∨ i = 17 ∨ i = 18 ∨ i = 19 ∨ i = 20 ∨ i = 21 ∨ i = 22 := by omega
  rcases hc with rfl | rfl | rfl | rfl | rfl | rfl | rfl | rfl | rfl | rfl | rfl | rfl | rfl | rfl | rfl | rfl | rfl | rfl | rfl | rfl | rfl | rfl | rfl
  · exact ⟨_, _, _, t0, three ⟨rfl, rfl, rfl⟩⟩
  · exact ⟨_, _, _, t1, three ⟨rfl, rfl, rfl⟩⟩
  · exact ⟨_, _, _, t2, three ⟨rfl, rfl, rfl⟩⟩
  · exact ⟨_, _, _, t3, three ⟨rfl, rfl, rfl⟩⟩
  · exact ⟨_, _, _, t4, three ⟨rfl, rfl, rfl⟩⟩
  · exact ⟨_, _, _, t5, three ⟨rfl, rfl, rfl⟩⟩
  · exact ⟨_, _, _, t6, three ⟨rfl, rfl, rfl⟩⟩
  · exact ⟨_, _, _, t7, three ⟨rfl, rfl, rfl⟩⟩
  · exact ⟨_, _, _, t8, three ⟨rfl, rfl, rfl⟩⟩
  · exact ⟨_, _, _, t9, three ⟨rfl, rfl, rfl⟩⟩
  · exact ⟨_, _, _, t10, three ⟨rfl, rfl, rfl⟩⟩
  · exact ⟨_, _, _, t11, three ⟨rfl, rfl, rfl⟩⟩
  · exact ⟨_, _, _, t12, three ⟨rfl, rfl, rfl⟩⟩
  · exact ⟨_, _, _, t13, three ⟨rfl, rfl, rfl⟩⟩
  · exact ⟨_, _, _, t14, three ⟨rfl, rfl, rfl⟩⟩
  · exact ⟨_, _, _, t15, three ⟨rfl, rfl, rfl⟩⟩
  · exact ⟨_, _, _, t16, three ⟨rfl, rfl, rfl⟩⟩
  · exact ⟨_, _, _, t17, three ⟨rfl, rfl, rfl⟩⟩
  · exact ⟨_, _, _, t18, three ⟨rfl, rfl, rfl⟩⟩
  · exact ⟨_, _, _, t19, three ⟨rfl, rfl, rfl⟩⟩
  · exact ⟨_, _, _, t20, three ⟨rfl, rfl, rfl⟩⟩
  · exact ⟨_, _, _, t21, three ⟨rfl, rfl, rfl⟩⟩
  · exact ⟨_, _, _, t22, three ⟨rfl, rfl, rfl⟩⟩
theorem c1 (w : World) : Calls Try.prog 13 #[.int .i64 1, .int .i64 32768] w fun e w' => e = .returned (.tuple #[.int .i64 1, .int .i64 0]) ∧ Below w.heap.size w w' :=
  (mmul_any 1 32768 w).mono (by rintro e w' ⟨rfl, h⟩; exact ⟨by rw [show rsV [1, 32768] ((1 * 32768 + 32768) / 65536) ((1 * 32768 + 32768) / 65536) 0 = 1 by decide +kernel, show rsE [1, 32768] ((1 * 32768 + 32768) / 65536) 0 = 0 by decide +kernel], h⟩)
theorem c2 (w : World) : Calls Try.prog 13 #[.int .i64 (-1), .int .i64 32768] w fun e w' => e = .returned (.tuple #[.int .i64 0, .int .i64 0]) ∧ Below w.heap.size w w' :=
  (mmul_any (-1) 32768 w).mono (by rintro e w' ⟨rfl, h⟩; exact ⟨by rw [show rsV [-1, 32768] ((-1 * 32768 + 32768) / 65536) ((-1 * 32768 + 32768) / 65536) 0 = 0 by decide +kernel, show rsE [-1, 32768] ((-1 * 32768 + 32768) / 65536) 0 = 0 by decide +kernel], h⟩)
theorem c3 (w : World) : Calls Try.prog 16 #[.int .i64 (-65536), .int .i64 196608] w fun e w' => e = .returned (.tuple #[.int .i64 (-21845), .int .i64 0]) ∧ Below w.heap.size w w' :=
  (mdiv_any (-65536) 196608 w).mono (by rintro e w' ⟨rfl, h⟩; exact ⟨by rw [show rsV [-65536, 196608] (dvY (-65536) 196608) (dvY (-65536) 196608) (dvEr 196608) = -21845 by decide +kernel, show rsE [-65536, 196608] (dvY (-65536) 196608) (dvEr 196608) = 0 by decide +kernel], h⟩)
theorem c4 (w : World) : Calls Try.prog 13 #[.int .i64 2147483648, .int .i64 2147483648] w fun e w' => e = .returned (.tuple #[.int .i64 0, .int .i64 25]) ∧ Below w.heap.size w w' :=
  (mmul_any 2147483648 2147483648 w).mono (by rintro e w' ⟨rfl, h⟩; exact ⟨by rw [show rsV [2147483648, 2147483648] ((2147483648 * 2147483648 + 32768) / 65536) ((2147483648 * 2147483648 + 32768) / 65536) 0 = 0 by decide +kernel, show rsE [2147483648, 2147483648] ((2147483648 * 2147483648 + 32768) / 65536) 0 = 25 by decide +kernel], h⟩)
theorem c5 (w : World) : Calls Try.prog 24 #[.int .i64 2147483648, .int .i64 1] w fun e w' => e = .returned (.tuple #[.int .i64 0, .int .i64 25]) ∧ Below w.heap.size w w' :=
  (madd_any 2147483648 1 w).mono (by rintro e w' ⟨rfl, h⟩; exact ⟨by rw [show rsV [2147483648, 1] (2147483648 + 1) (2147483648 + 1) 0 = 0 by decide +kernel, show rsE [2147483648, 1] (2147483648 + 1) 0 = 25 by decide +kernel], h⟩)
theorem c6 (w : World) : Calls Try.prog 16 #[.int .i64 2147483649, .int .i64 0] w fun e w' => e = .returned (.tuple #[.int .i64 0, .int .i64 2]) ∧ Below w.heap.size w w' :=
  (mdiv_any 2147483649 0 w).mono (by rintro e w' ⟨rfl, h⟩; exact ⟨by rw [show rsV [2147483649, 0] (dvY 2147483649 0) (dvY 2147483649 0) (dvEr 0) = 0 by decide +kernel, show rsE [2147483649, 0] (dvY 2147483649 0) (dvEr 0) = 2 by decide +kernel], h⟩)
theorem c7 (w : World) : Calls Try.prog 25 #[.int .i64 (-1)] w fun e w' => e = .returned (.tuple #[.int .i64 0, .int .i64 23]) ∧ Below w.heap.size w w' :=
  (msqrt_any (-1) w).mono (by
    rintro e w' ⟨rfl, h⟩
    rw [if_pos (by omega : (-1 : Int) < 0), if_pos (by omega : (-1 : Int) < 0)]
    exact ⟨by rw [show rsV [-1] 0 0 23 = 0 by decide +kernel, show rsE [-1] 0 23 = 23 by decide +kernel], h⟩)
theorem c8 (w : World) : Calls Try.prog 25 #[.int .i64 2147483648] w fun e w' => e = .returned (.tuple #[.int .i64 11863283, .int .i64 0]) ∧ Below w.heap.size w w' :=
  (msqrt_any 2147483648 w).mono (by
    rintro e w' ⟨rfl, h⟩
    have hv : sqV 2147483648 = 11863283 := SQ.val (by unfold SQ; omega)
    rw [hv, if_neg (by omega : ¬ (2147483648 : Int) < 0), if_neg (by omega : ¬ (2147483648 : Int) < 0)]
    exact ⟨by rw [show rsV [2147483648] 11863283 11863283 0 = 11863283 by decide +kernel, show rsE [2147483648] 11863283 0 = 0 by decide +kernel], h⟩)
theorem c9 (w : World) : Calls Try.prog 26 #[.int .i64 163840] w fun e w' => e = .returned (.tuple #[.int .i64 196608, .int .i64 0]) ∧ Below w.heap.size w w' :=
  (mround_any 163840 w).mono (by rintro e w' ⟨rfl, h⟩; exact ⟨by rw [show rsV [163840] ((163840 + 32768) / 65536 * 65536) ((163840 + 32768) / 65536 * 65536) 0 = 196608 by decide +kernel, show rsE [163840] ((163840 + 32768) / 65536 * 65536) 0 = 0 by decide +kernel], h⟩)
theorem c10 (w : World) : Calls Try.prog 26 #[.int .i64 2147483647] w fun e w' => e = .returned (.tuple #[.int .i64 2147483648, .int .i64 0]) ∧ Below w.heap.size w w' :=
  (mround_any 2147483647 w).mono (by rintro e w' ⟨rfl, h⟩; exact ⟨by rw [show rsV [2147483647] ((2147483647 + 32768) / 65536 * 65536) ((2147483647 + 32768) / 65536 * 65536) 0 = 2147483648 by decide +kernel, show rsE [2147483647] ((2147483647 + 32768) / 65536 * 65536) 0 = 0 by decide +kernel], h⟩)
theorem cel3 {w : World} {b t : Nat} {v0 v1 v2 : Value} (h : w.heap[b]? = some (.cells #[v0, v1, v2] t (0, 0))) : w.cell? ⟨b, 0, none⟩ = some v0 ∧ w.cell? ⟨b, 1, none⟩ = some v1 ∧ w.cell? ⟨b, 2, none⟩ = some v2 := by
  refine ⟨?_, ?_, ?_⟩ <;> simp [World.cell?, h]
theorem known_walk (w : World) :
    Calls Try.prog 6 #[] w fun e w' => e = .returned (.bool true) ∧ Below w.heap.size w w' := by
  go_enter Try.func6, Try.ntmps6
  go_wp2_with ((with_reducible refine rw_list ?_); (first | ((with_reducible apply wpList_load_cell); (case ho => with_reducible rfl); (case hgd => with_reducible rfl); (case hx => rfl); (case hu => first | exact Try.underlying40 | exact Try.underlying3 | exact Try.underlying9 | exact Try.underlying26); (case hd => rfl)) | ((with_reducible apply wpList_load_row); (case ho => with_reducible rfl); (case hgd => with_reducible rfl); (case hx => rfl); (case hu => first | exact Try.underlying40 | exact Try.underlying3 | exact Try.underlying9 | exact Try.underlying26); (case hd => rfl)) | ((with_reducible apply wpList_store_row); (case ho => with_reducible rfl); (case hgd => with_reducible rfl); (case hx => rfl); (case hy => rfl)) | ((with_reducible apply wpList_store_cell); (case ho => with_reducible rfl); (case hgd => with_reducible rfl); (case hx => rfl); (case hy => first | exact ev_const | exact ev_tmp rfl); (case h1 => rfl))); (case hg => exact (by with_reducible repeat (first | assumption | (refine rw_new ?e_; case e_ => first | rfl | (simp; done) | (simp; omega)) | apply rw_self | (apply rw_other; case hn => first | omega | (simp; omega)) | apply rw_alloc | apply rw_drew | apply rw_drewN))); (try case hv => rfl); (try case hi => kernel_rfl); (try case hold => rfl); (try case h1 => kernel_rfl); (try case hlt => rfl); (try case hcs => ((try simp only [List.setIfInBounds_toArray, List.set_cons_succ, List.set_cons_zero]); rfl)))
  refine (works_any _).mono ?_
  rintro e w1 ⟨rfl, hb⟩
  have hs_w1 := hb.size
  (try simp at hs_w1)
  have hB_w1 : Below w.heap.size w w1 := below_then (w := w) (by with_reducible repeat (first | exact Below.refl _ _ | assumption | ((first | refine Below.alloc ?_ ?b_ _ | refine bw_set ?_ ?b_ | refine Below.setCell ?_ ?b_ _); case b_ => first | omega | (simp; done) | (simp; omega)) | refine Below.drew ?_ | refine below_drewN ?_ _)) (by first | omega | (simp; done) | (simp; omega) | (have hq_ := hb.size; omega)) hb
  clear hb
  go_wp2_with ((with_reducible refine rw_list ?_); (first | ((with_reducible apply wpList_load_cell); (case ho => with_reducible rfl); (case hgd => with_reducible rfl); (case hx => rfl); (case hu => first | exact Try.underlying40 | exact Try.underlying3 | exact Try.underlying9 | exact Try.underlying26); (case hd => rfl)) | ((with_reducible apply wpList_load_row); (case ho => with_reducible rfl); (case hgd => with_reducible rfl); (case hx => rfl); (case hu => first | exact Try.underlying40 | exact Try.underlying3 | exact Try.underlying9 | exact Try.underlying26); (case hd => rfl)) | ((with_reducible apply wpList_store_row); (case ho => with_reducible rfl); (case hgd => with_reducible rfl); (case hx => rfl); (case hy => rfl)) | ((with_reducible apply wpList_store_cell); (case ho => with_reducible rfl); (case hgd => with_reducible rfl); (case hx => rfl); (case hy => first | exact ev_const | exact ev_tmp rfl); (case h1 => rfl))); (case hg => exact (by with_reducible repeat (first | assumption | (refine rw_new ?e_; case e_ => first | rfl | (simp; done) | (simp; omega)) | apply rw_self | (apply rw_other; case hn => first | omega | (simp; omega)) | apply rw_alloc | apply rw_drew | apply rw_drewN))); (try case hv => rfl); (try case hi => kernel_rfl); (try case hold => rfl); (try case h1 => kernel_rfl); (try case hlt => rfl); (try case hcs => ((try simp only [List.setIfInBounds_toArray, List.set_cons_succ, List.set_cons_zero]); rfl)))
  generalize hwy_ : World.alloc _ _ = wy
  have hbad : wy.heap[w1.heap.size]? = some (.cells tab 40 (0, 0)) := rw_eq hwy_ (rw_new rfl)
  have hB_wy : Below w.heap.size w wy := bw_eq hwy_ (by with_reducible repeat (first | exact Below.refl _ _ | assumption | ((first | refine Below.alloc ?_ ?b_ _ | refine bw_set ?_ ?b_ | refine Below.setCell ?_ ?b_ _); case b_ => first | omega | (simp; done) | (simp; omega)) | refine Below.drew ?_ | refine below_drewN ?_ _))
  clear hwy_
  go_loopw [52] (fun v wr => ∃ i : Nat, i ≤ 23 ∧ v = .int .i64 i ∧ Below w.heap.size w wr ∧ wr.heap[w1.heap.size]? = some (.cells tab 40 (0, 0))) (fun v _ => 23 - (intOf v).toNat)
  case atStart => exact ⟨0, by omega, rfl, hB_wy, hbad⟩
  case round =>
    clear hB_wy hbad
    obtain ⟨i, hi, rfl, hB, hbad⟩ := hrel
    have hsz : w.heap.size ≤ wr.heap.size := hB.size
    by_cases hlt : i < 23
    · obtain ⟨S, V, E, hp, hcell⟩ := tab_at i hlt
      have f0 := (cell_of_row wr w1.heap.size (i * 3 + 0) _ _ _ hbad).trans (hcell 0 (by omega))
      have f1 := (cell_of_row wr w1.heap.size (i * 3 + 1) _ _ _ hbad).trans (hcell 1 (by omega))
      have f2 := (cell_of_row wr w1.heap.size (i * 3 + 2) _ _ _ hbad).trans (hcell 2 (by omega))
      simp at f0 f1 f2
      clear hcell
      go_wp2_with fail
      clear f0 f1 f2
      refine (hp _).mono ?_
      rintro e w2 ⟨rfl, hb⟩
      have hs_w2 := hb.size
      (try simp at hs_w2)
      have hB_w2 : Below w.heap.size w w2 := below_then (w := w) (by with_reducible repeat (first | exact Below.refl _ _ | assumption | ((first | refine Below.alloc ?_ ?b_ _ | refine bw_set ?_ ?b_ | refine Below.setCell ?_ ?b_ _); case b_ => first | omega | (simp; done) | (simp; omega)) | refine Below.drew ?_ | refine below_drewN ?_ _)) (by first | omega | (simp; done) | (simp; omega) | (have hq_ := hb.size; omega)) hb
      have hx_ := rw_below (k := w1.heap.size) hb (by with_reducible repeat (first | assumption | (refine rw_new ?e_; case e_ => first | rfl | (simp; done) | (simp; omega)) | apply rw_self | (apply rw_other; case hn => first | omega | (simp; omega)) | apply rw_alloc | apply rw_drew | apply rw_drewN))
      (try clear hbad)
      have hbad := hx_
      clear hx_
      have hx_ := rw_below (k := wr.heap.size) hb (by with_reducible repeat (first | assumption | (refine rw_new ?e_; case e_ => first | rfl | (simp; done) | (simp; omega)) | apply rw_self | (apply rw_other; case hn => first | omega | (simp; omega)) | apply rw_alloc | apply rw_drew | apply rw_drewN))
      (try clear hx)
      (try clear hxc0 hxc1 hxc2)
      have hx := hx_
      clear hx_
      obtain ⟨hxc0, hxc1, hxc2⟩ := cel3 hx
      clear hb
      go_wp2_with ((with_reducible refine rw_list ?_); (first | ((with_reducible apply wpList_load_cell); (case ho => with_reducible rfl); (case hgd => with_reducible rfl); (case hx => rfl); (case hu => first | exact Try.underlying40 | exact Try.underlying3 | exact Try.underlying9 | exact Try.underlying26); (case hd => rfl)) | ((with_reducible apply wpList_load_row); (case ho => with_reducible rfl); (case hgd => with_reducible rfl); (case hx => rfl); (case hu => first | exact Try.underlying40 | exact Try.underlying3 | exact Try.underlying9 | exact Try.underlying26); (case hd => rfl)) | ((with_reducible apply wpList_store_row); (case ho => with_reducible rfl); (case hgd => with_reducible rfl); (case hx => rfl); (case hy => rfl)) | ((with_reducible apply wpList_store_cell); (case ho => with_reducible rfl); (case hgd => with_reducible rfl); (case hx => rfl); (case hy => first | exact ev_const | exact ev_tmp rfl); (case h1 => rfl))); (case hg => exact (by with_reducible repeat (first | assumption | (refine rw_new ?e_; case e_ => first | rfl | (simp; done) | (simp; omega)) | apply rw_self | (apply rw_other; case hn => first | omega | (simp; omega)) | apply rw_alloc | apply rw_drew | apply rw_drewN))); (try case hv => rfl); (try case hi => kernel_rfl); (try case hold => rfl); (try case h1 => kernel_rfl); (try case hlt => rfl); (try case hcs => ((try simp only [List.setIfInBounds_toArray, List.set_cons_succ, List.set_cons_zero]); rfl)))
      go_roundw
      case rel => exact ⟨i + 1, by omega, by go_num, hB_w2, hbad⟩
      case measure => simp [intOf]; omega
    · have hie : i = 23 := by omega
      subst hie
      clear hbad
      go_wp2_with fail
      refine (c1 _).mono ?_
      rintro e v1 ⟨rfl, hb⟩
      have hs_v1 := hb.size
      (try simp at hs_v1)
      have hB_v1 : Below w.heap.size w v1 := below_then (w := w) (by with_reducible repeat (first | exact Below.refl _ _ | assumption | ((first | refine Below.alloc ?_ ?b_ _ | refine bw_set ?_ ?b_ | refine Below.setCell ?_ ?b_ _); case b_ => first | omega | (simp; done) | (simp; omega)) | refine Below.drew ?_ | refine below_drewN ?_ _)) (by first | omega | (simp; done) | (simp; omega) | (have hq_ := hb.size; omega)) hb
      clear hb
      go_wp2_with fail
      refine (c2 _).mono ?_
      rintro e v2 ⟨rfl, hb⟩
      have hs_v2 := hb.size
      (try simp at hs_v2)
      have hB_v2 : Below w.heap.size w v2 := below_then (w := w) (by with_reducible repeat (first | exact Below.refl _ _ | assumption | ((first | refine Below.alloc ?_ ?b_ _ | refine bw_set ?_ ?b_ | refine Below.setCell ?_ ?b_ _); case b_ => first | omega | (simp; done) | (simp; omega)) | refine Below.drew ?_ | refine below_drewN ?_ _)) (by first | omega | (simp; done) | (simp; omega) | (have hq_ := hb.size; omega)) hb
      clear hb
      go_wp2_with fail
      refine (c3 _).mono ?_
      rintro e v3 ⟨rfl, hb⟩
      have hs_v3 := hb.size
      (try simp at hs_v3)
      have hB_v3 : Below w.heap.size w v3 := below_then (w := w) (by with_reducible repeat (first | exact Below.refl _ _ | assumption | ((first | refine Below.alloc ?_ ?b_ _ | refine bw_set ?_ ?b_ | refine Below.setCell ?_ ?b_ _); case b_ => first | omega | (simp; done) | (simp; omega)) | refine Below.drew ?_ | refine below_drewN ?_ _)) (by first | omega | (simp; done) | (simp; omega) | (have hq_ := hb.size; omega)) hb
      clear hb
      go_wp2_with fail
      refine (c4 _).mono ?_
      rintro e v4 ⟨rfl, hb⟩
      have hs_v4 := hb.size
      (try simp at hs_v4)
      have hB_v4 : Below w.heap.size w v4 := below_then (w := w) (by with_reducible repeat (first | exact Below.refl _ _ | assumption | ((first | refine Below.alloc ?_ ?b_ _ | refine bw_set ?_ ?b_ | refine Below.setCell ?_ ?b_ _); case b_ => first | omega | (simp; done) | (simp; omega)) | refine Below.drew ?_ | refine below_drewN ?_ _)) (by first | omega | (simp; done) | (simp; omega) | (have hq_ := hb.size; omega)) hb
      clear hb
      go_wp2_with fail
      refine (c5 _).mono ?_
      rintro e v5 ⟨rfl, hb⟩
      have hs_v5 := hb.size
      (try simp at hs_v5)
      have hB_v5 : Below w.heap.size w v5 := below_then (w := w) (by with_reducible repeat (first | exact Below.refl _ _ | assumption | ((first | refine Below.alloc ?_ ?b_ _ | refine bw_set ?_ ?b_ | refine Below.setCell ?_ ?b_ _); case b_ => first | omega | (simp; done) | (simp; omega)) | refine Below.drew ?_ | refine below_drewN ?_ _)) (by first | omega | (simp; done) | (simp; omega) | (have hq_ := hb.size; omega)) hb
      clear hb
      go_wp2_with fail
      refine (c6 _).mono ?_
      rintro e v6 ⟨rfl, hb⟩
      have hs_v6 := hb.size
      (try simp at hs_v6)
      have hB_v6 : Below w.heap.size w v6 := below_then (w := w) (by with_reducible repeat (first | exact Below.refl _ _ | assumption | ((first | refine Below.alloc ?_ ?b_ _ | refine bw_set ?_ ?b_ | refine Below.setCell ?_ ?b_ _); case b_ => first | omega | (simp; done) | (simp; omega)) | refine Below.drew ?_ | refine below_drewN ?_ _)) (by first | omega | (simp; done) | (simp; omega) | (have hq_ := hb.size; omega)) hb
      clear hb
      go_wp2_with fail
      refine (c7 _).mono ?_
      rintro e v7 ⟨rfl, hb⟩
      have hs_v7 := hb.size
      (try simp at hs_v7)
      have hB_v7 : Below w.heap.size w v7 := below_then (w := w) (by with_reducible repeat (first | exact Below.refl _ _ | assumption | ((first | refine Below.alloc ?_ ?b_ _ | refine bw_set ?_ ?b_ | refine Below.setCell ?_ ?b_ _); case b_ => first | omega | (simp; done) | (simp; omega)) | refine Below.drew ?_ | refine below_drewN ?_ _)) (by first | omega | (simp; done) | (simp; omega) | (have hq_ := hb.size; omega)) hb
      clear hb
      go_wp2_with fail
      refine (c8 _).mono ?_
      rintro e v8 ⟨rfl, hb⟩
      have hs_v8 := hb.size
      (try simp at hs_v8)
      have hB_v8 : Below w.heap.size w v8 := below_then (w := w) (by with_reducible repeat (first | exact Below.refl _ _ | assumption | ((first | refine Below.alloc ?_ ?b_ _ | refine bw_set ?_ ?b_ | refine Below.setCell ?_ ?b_ _); case b_ => first | omega | (simp; done) | (simp; omega)) | refine Below.drew ?_ | refine below_drewN ?_ _)) (by first | omega | (simp; done) | (simp; omega) | (have hq_ := hb.size; omega)) hb
      clear hb
      go_wp2_with fail
      refine (c9 _).mono ?_
      rintro e v9 ⟨rfl, hb⟩
      have hs_v9 := hb.size
      (try simp at hs_v9)
      have hB_v9 : Below w.heap.size w v9 := below_then (w := w) (by with_reducible repeat (first | exact Below.refl _ _ | assumption | ((first | refine Below.alloc ?_ ?b_ _ | refine bw_set ?_ ?b_ | refine Below.setCell ?_ ?b_ _); case b_ => first | omega | (simp; done) | (simp; omega)) | refine Below.drew ?_ | refine below_drewN ?_ _)) (by first | omega | (simp; done) | (simp; omega) | (have hq_ := hb.size; omega)) hb
      clear hb
      go_wp2_with fail
      refine (c10 _).mono ?_
      rintro e v10 ⟨rfl, hb⟩
      have hs_v10 := hb.size
      (try simp at hs_v10)
      have hB_v10 : Below w.heap.size w v10 := below_then (w := w) (by with_reducible repeat (first | exact Below.refl _ _ | assumption | ((first | refine Below.alloc ?_ ?b_ _ | refine bw_set ?_ ?b_ | refine Below.setCell ?_ ?b_ _); case b_ => first | omega | (simp; done) | (simp; omega)) | refine Below.drew ?_ | refine below_drewN ?_ _)) (by first | omega | (simp; done) | (simp; omega) | (have hq_ := hb.size; omega)) hb
      clear hb
      go_wp2_with fail
      refine (works_any _).mono ?_
      rintro e v11 ⟨rfl, hb⟩
      have hs_v11 := hb.size
      (try simp at hs_v11)
      have hB_v11 : Below w.heap.size w v11 := below_then (w := w) (by with_reducible repeat (first | exact Below.refl _ _ | assumption | ((first | refine Below.alloc ?_ ?b_ _ | refine bw_set ?_ ?b_ | refine Below.setCell ?_ ?b_ _); case b_ => first | omega | (simp; done) | (simp; omega)) | refine Below.drew ?_ | refine below_drewN ?_ _)) (by first | omega | (simp; done) | (simp; omega) | (have hq_ := hb.size; omega)) hb
      clear hb
      go_wp2_with fail
      go_ret
      exact ⟨rfl, (by with_reducible repeat (first | exact Below.refl _ _ | assumption | ((first | refine Below.alloc ?_ ?b_ _ | refine bw_set ?_ ?b_ | refine Below.setCell ?_ ?b_ _); case b_ => first | omega | (simp; done) | (simp; omega)) | refine Below.drew ?_ | refine below_drewN ?_ _))⟩
end Go.Proofs.Ytilchjpjmfaghaa.T3
