/- chapter 01: works: the written calls. -/
import Derived.Test.YtilchjpjmfaghaaReV
import Derived.Test.YtilchjpjmfaghaaReN
import Derived.Test.YtilchjpjmfaghaaReM
namespace Go.Proofs.Ytilchjpjmfaghaa.T3
set_option linter.unusedSimpArgs false
set_option linter.unusedVariables false
open Go.RowKit
set_option maxHeartbeats 4000000
set_option maxRecDepth 100000
theorem kc1 (w : World) : Calls Try.prog 27 #[.int .i64 32768] w fun e w' => e = .returned (.tuple #[.int .i64 2147483648, .int .i64 0]) ∧ Below w.heap.size w w' :=
  (mfi_any 32768 w).mono (by rintro e w' ⟨rfl, rfl⟩; exact ⟨by rw [show fiV 32768 = 2147483648 by decide +kernel, show fiE 32768 = 0 by decide +kernel], Below.refl _ _⟩)
theorem kc2 (w : World) : Calls Try.prog 27 #[.int .i64 32769] w fun e w' => e = .returned (.tuple #[.int .i64 (fiV 32769), .int .i64 25]) ∧ Below w.heap.size w w' :=
  (mfi_any 32769 w).mono (by rintro e w' ⟨rfl, rfl⟩; exact ⟨by rw [show fiE 32769 = 25 by decide +kernel], Below.refl _ _⟩)
theorem kc3 (w : World) : Calls Try.prog 30 #[.int .i64 (-98304)] w fun e w' => e = .returned (.tuple #[.int .i64 (-1), .int .i64 0]) ∧ Below w.heap.size w w' :=
  (mtoint_any (-98304) w).mono (by rintro e w' ⟨rfl, h⟩; exact ⟨by rw [show rsV [-98304] ((-98304 : Int).tdiv 65536) ((-98304 : Int).tdiv 65536) 0 = -1 by decide +kernel, show rsE [-98304] ((-98304 : Int).tdiv 65536) 0 = 0 by decide +kernel], h⟩)
theorem kc4 (w : World) : Calls Try.prog 13 #[.int .i64 98304, .int .i64 (-147456)] w fun e w' => e = .returned (.tuple #[.int .i64 (-221184), .int .i64 0]) ∧ Below w.heap.size w w' :=
  (mmul_any 98304 (-147456) w).mono (by rintro e w' ⟨rfl, h⟩; exact ⟨by rw [show rsV [98304, -147456] ((98304 * -147456 + 32768) / 65536) ((98304 * -147456 + 32768) / 65536) 0 = -221184 by decide +kernel, show rsE [98304, -147456] ((98304 * -147456 + 32768) / 65536) 0 = 0 by decide +kernel], h⟩)
theorem kc5 (w : World) : Calls Try.prog 16 #[.int .i64 65536, .int .i64 196608] w fun e w' => e = .returned (.tuple #[.int .i64 21845, .int .i64 0]) ∧ Below w.heap.size w w' :=
  (mdiv_any 65536 196608 w).mono (by rintro e w' ⟨rfl, h⟩; exact ⟨by rw [show rsV [65536, 196608] (dvY 65536 196608) (dvY 65536 196608) (dvEr 196608) = 21845 by decide +kernel, show rsE [65536, 196608] (dvY 65536 196608) (dvEr 196608) = 0 by decide +kernel], h⟩)
theorem kc6 (w : World) : Calls Try.prog 16 #[.int .i64 65536, .int .i64 0] w fun e w' => e = .returned (.tuple #[.int .i64 (rsV [65536, 0] (dvY 65536 0) (dvY 65536 0) (dvEr 0)), .int .i64 25]) ∧ Below w.heap.size w w' :=
  (mdiv_any 65536 0 w).mono (by rintro e w' ⟨rfl, h⟩; exact ⟨by rw [show rsE [65536, 0] (dvY 65536 0) (dvEr 0) = 25 by decide +kernel], h⟩)
theorem kc7 (w : World) : Calls Try.prog 26 #[.int .i64 (-163840)] w fun e w' => e = .returned (.tuple #[.int .i64 (-131072), .int .i64 0]) ∧ Below w.heap.size w w' :=
  (mround_any (-163840) w).mono (by rintro e w' ⟨rfl, h⟩; exact ⟨by rw [show rsV [-163840] ((-163840 + 32768) / 65536 * 65536) ((-163840 + 32768) / 65536 * 65536) 0 = -131072 by decide +kernel, show rsE [-163840] ((-163840 + 32768) / 65536 * 65536) 0 = 0 by decide +kernel], h⟩)
theorem kc8 (w : World) : Calls Try.prog 25 #[.int .i64 131072] w fun e w' => e = .returned (.tuple #[.int .i64 92681, .int .i64 0]) ∧ Below w.heap.size w w' :=
  (msqrt_any 131072 w).mono (by
    rintro e w' ⟨rfl, h⟩
    have hv : sqV 131072 = 92681 := SQ.val (by unfold SQ; omega)
    rw [hv]
    exact ⟨by rw [show rsV [131072] (if (131072 : Int) < 0 then 0 else 92681) (if (131072 : Int) < 0 then 0 else 92681) (if (131072 : Int) < 0 then 23 else 0) = 92681 by decide +kernel, show rsE [131072] (if (131072 : Int) < 0 then 0 else 92681) (if (131072 : Int) < 0 then 23 else 0) = 0 by decide +kernel], h⟩)
theorem kc9 (w : World) : Calls Try.prog 18 #[.int .i64 1] w fun e w' => e = .returned (.tuple #[.string ⟨#[48, 46, 48, 48, 48, 48, 49, 53, 50, 53, 56, 55, 56, 57, 48, 54, 50, 53]⟩, .int .i64 0]) ∧ Below w.heap.size w w' :=
  (mprint_any 1 w).mono (by rintro e w' ⟨rfl, h⟩; exact ⟨by rw [show rsS [1] (prS 1) = ⟨#[48, 46, 48, 48, 48, 48, 49, 53, 50, 53, 56, 55, 56, 57, 48, 54, 50, 53]⟩ by decide +kernel, show rsN [1] = 0 by decide +kernel], h⟩)
theorem kc10 (w : World) : Calls Try.prog 18 #[.int .i64 (-32768)] w fun e w' => e = .returned (.tuple #[.string ⟨#[45, 48, 46, 53]⟩, .int .i64 0]) ∧ Below w.heap.size w w' :=
  (mprint_any (-32768) w).mono (by rintro e w' ⟨rfl, h⟩; exact ⟨by rw [show rsS [-32768] (prS (-32768)) = ⟨#[45, 48, 46, 53]⟩ by decide +kernel, show rsN [-32768] = 0 by decide +kernel], h⟩)
theorem kc11 (w : World) : Calls Try.prog 21 #[.string ⟨#[49, 101, 45, 49]⟩] w fun e w' => e = .returned (.tuple #[.int .i64 6554, .int .i64 0]) ∧ Below w.heap.size w w' :=
  (mparse_any ⟨#[49, 101, 45, 49]⟩ w (by decide)).mono (by rintro e w' ⟨rfl, h⟩; exact ⟨by rw [show pV ⟨#[49, 101, 45, 49]⟩ = 6554 by decide +kernel, show pE ⟨#[49, 101, 45, 49]⟩ = 0 by decide +kernel], h⟩)
theorem kc12 (w : World) : Calls Try.prog 21 #[.string ⟨#[51, 50, 55, 54, 56, 46, 49]⟩] w fun e w' => e = .returned (.tuple #[.int .i64 (pV ⟨#[51, 50, 55, 54, 56, 46, 49]⟩), .int .i64 6]) ∧ Below w.heap.size w w' :=
  (mparse_any ⟨#[51, 50, 55, 54, 56, 46, 49]⟩ w (by decide)).mono (by rintro e w' ⟨rfl, h⟩; exact ⟨by rw [show pE ⟨#[51, 50, 55, 54, 56, 46, 49]⟩ = 6 by decide +kernel], h⟩)
theorem kc13 (w : World) : Calls Try.prog 21 #[.string ⟨#[49, 46, 50, 46]⟩] w fun e w' => e = .returned (.tuple #[.int .i64 (pV ⟨#[49, 46, 50, 46]⟩), .int .i64 5]) ∧ Below w.heap.size w w' :=
  (mparse_any ⟨#[49, 46, 50, 46]⟩ w (by decide)).mono (by rintro e w' ⟨rfl, h⟩; exact ⟨by rw [show pE ⟨#[49, 46, 50, 46]⟩ = 5 by decide +kernel], h⟩)
end Go.Proofs.Ytilchjpjmfaghaa.T3
