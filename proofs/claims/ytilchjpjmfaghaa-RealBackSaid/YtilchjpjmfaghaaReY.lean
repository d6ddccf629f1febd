/- chapter 01: is: answers and errors alike. -/
import Derived.Test.YtilchjpjmfaghaaReX
namespace Go.Proofs.Ytilchjpjmfaghaa.T3
set_option linter.unusedSimpArgs false
set_option linter.unusedVariables false
open Go.RowKit
attribute [local go_sem] Oper.semAt_some
set_option maxHeartbeats 4000000
set_option maxRecDepth 100000
theorem lis_any (a ea b eb : Int) (l : List Int) (g c : Nat) (w : World) (hg : w.heap[g]? = some (.cells (l.map (Value.int .i64)).toArray 3 (0, 0))) (hl : l.length ≤ 100)
    (h1 : allR l = true → a = b ∧ ea = eb) (h2 : allR l = false → a = 0 ∧ ea = 2) :
    Calls Try.prog 15 #[.int .i64 a, .int .i64 ea, .int .i64 b, .int .i64 eb, .slice (some ⟨g, 0, none⟩) l.length c] w fun e w' => e = .returned (.bool true) ∧ w = w' := by
  have hc := row_cells l hg
  go_enter Try.func15, Try.ntmps15
  go_wp2_with fail
  go_loop [15] (fun i => ∃ k : Nat, k ≤ l.length ∧ i = .int .i64 k ∧ allR (l.take k) = true) (fun i => l.length - (intOf i).toNat)
  case atStart => exact ⟨0, Nat.zero_le _, rfl, by simp [allR]⟩
  case round =>
    obtain ⟨k, hk, rfl, hw⟩ := hrel
    by_cases hlt : k < l.length
    · have hck : w.cell? ⟨g, k, none⟩ = some (.int .i64 l[k]) := by have h9 := hc k hlt; simpa [List.getD_eq_getElem?_getD, List.getElem?_eq_getElem hlt] using h9
      have ht := allR_take l k hlt
      have Hw := Lib.hid hw
      have Ht := Lib.hid ht
      clear hw ht
      cases hb : isB l[k]
      · obtain ⟨rfl, rfl⟩ := h2 (allR_no l k hlt hb)
        have Hb := Lib.hid hb
        clear hb h1 h2
        go_wp2_with fail
        refine (ris_any _ _).mono ?_
        rintro e w' ⟨rfl, rfl⟩
        rw [Hb.out]
        go_wp2_with fail
        go_ret
        exact ⟨rfl, rfl⟩
      · have Hb := Lib.hid hb
        clear hb
        have H1 := Lib.hid h1
        have H2 := Lib.hid h2
        clear h1 h2
        go_wp2_with fail
        refine (ris_any _ _).mono ?_
        rintro e w' ⟨rfl, rfl⟩
        rw [Hb.out]
        go_wp2_with fail
        go_round
        case rel => exact ⟨k + 1, by omega, by go_num, by rw [Ht.out, Hw.out, Hb.out]; rfl⟩
        case measure => simp [intOf]; omega
    · have hkl : k = l.length := by omega
      obtain ⟨rfl, rfl⟩ := h1 (by rw [← hw, hkl, List.take_length])
      clear hw hc h1 h2
      subst hkl
      go_wp2_with fail
      go_ret
      exact ⟨rfl, rfl⟩
end Go.Proofs.Ytilchjpjmfaghaa.T3
