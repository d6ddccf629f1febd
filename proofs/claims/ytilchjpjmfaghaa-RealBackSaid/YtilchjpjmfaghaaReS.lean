/- chapter 01: Print: through 'result'. -/
import Derived.Test.YtilchjpjmfaghaaReR
namespace Go.Proofs.Ytilchjpjmfaghaa.T3
set_option linter.unusedSimpArgs false
set_option linter.unusedVariables false
open Go.RowKit Go.Shelf
attribute [local go_sem] Oper.semAt_some
set_option maxHeartbeats 4000000
set_option maxRecDepth 100000
def rsS (l : List Int) (y : ByteArray) : ByteArray := if allR l = true then y else ⟨#[]⟩
def rsN (l : List Int) : Int := if allR l = true then 0 else 2
theorem sresult (f : Nat) (cap : Array Value) (l : List Int) (g c : Nat) (w : World) (hg : w.heap[g]? = some (.cells (l.map (Value.int .i64)).toArray 3 (0, 0))) (hl : l.length ≤ 100) (y : ByteArray) (hcf : ∀ (w : World), (callFunc f cap).run Try.prog w = .ok (.enter f cap) w)
    (hf : allR l = true → ∀ w', Below w.heap.size w w' → Calls Try.prog f cap w' fun e w'' => e = .returned (.tuple #[.string y, .int .i64 0, .int .i64 0]) ∧ Below w'.heap.size w' w'') :
    Calls Try.prog 50 #[.func (.func f) #[] cap, .slice (some ⟨g, 0, none⟩) l.length c] w fun e w' => e = .returned (.tuple #[.string (rsS l y), .int .i64 (rsN l)]) ∧ Below w.heap.size w w' := by
  have hc := row_cells l hg
  go_enter Try.func50, Try.ntmps50
  go_wp2_with fail
  go_loop [4, 12] (fun z i => z = .string { data := #[] } ∧ ∃ k : Nat, k ≤ l.length ∧ i = .int .i64 k ∧ allR (l.take k) = true) (fun _ i => l.length - (intOf i).toNat)
  case atStart => exact ⟨rfl, 0, Nat.zero_le _, rfl, by simp [allR]⟩
  case round =>
    obtain ⟨rfl, k, hk, rfl, hw⟩ := hrel
    by_cases hlt : k < l.length
    · have hck : w.cell? ⟨g, k, none⟩ = some (.int .i64 l[k]) := by have h9 := hc k hlt; simpa [List.getD_eq_getElem?_getD, List.getElem?_eq_getElem hlt] using h9
      have ht := allR_take l k hlt
      have Hw := Lib.hid hw
      have Ht := Lib.hid ht
      clear hw ht
      cases hb : isB l[k]
      · have Hno := Lib.hid (allR_no l k hlt hb)
        have Hb := Lib.hid hb
        clear hb
        go_wp2_with fail
        refine (mis_any _ _).mono ?_
        rintro e w' ⟨rfl, rfl⟩
        rw [Hb.out]
        go_wp2_with fail
        exact bodyPost_ret (v := .tuple #[.string { data := #[] }, .int .i64 2]) (by simp [results, Try.results50, go_sem]) rfl ⟨by rw [rsS, rsN, Hno.out]; rfl, (by with_reducible repeat (first | exact Below.refl _ _ | assumption | ((first | refine Below.alloc ?_ ?b_ _ | refine bw_set ?_ ?b_ | refine Below.setCell ?_ ?b_ _); case b_ => first | omega | (simp; done) | (simp; omega)) | refine Below.drew ?_ | refine below_drewN ?_ _))⟩
      · have Hb := Lib.hid hb
        clear hb
        go_wp2_with fail
        refine (mis_any _ _).mono ?_
        rintro e w' ⟨rfl, rfl⟩
        rw [Hb.out]
        go_wp2_with fail
        go_round
        case rel => exact ⟨rfl, k + 1, by omega, by go_num, by rw [Ht.out, Hw.out, Hb.out]; rfl⟩
        case measure => simp [intOf]; omega
    · have hkl : k = l.length := by omega
      have hall : allR l = true := by rw [← hw, hkl, List.take_length]
      have Hf := hf hall w (Below.refl _ _)
      have HE := Lib.hid hall
      clear hw hf hc hall
      subst hkl
      have hz : isB 0 = true := rfl
      have Hb := Lib.hid hz
      clear hz
      go_wp2_with fail
      refine Hf.mono ?_
      rintro e w1 ⟨rfl, hB⟩
      go_wp2_with fail
      refine (mis_any _ _).mono ?_
      rintro e w' ⟨rfl, rfl⟩
      rw [Hb.out]
      go_wp2_with fail
      exact bodyPost_ret (v := .tuple #[.string y, .int .i64 0]) (by simp [results, Try.results50, go_sem]) rfl ⟨by rw [rsS, rsN, HE.out]; rfl, hB⟩
theorem mprint_any (a : Int) (w : World) :
    Calls Try.prog 18 #[.int .i64 a] w fun e w' => e = .returned (.tuple #[.string (rsS [a] (prS a)), .int .i64 (rsN [a])]) ∧ Below w.heap.size w w' := by
  have hmf : ∀ (fn : Fn) (first cap : Array Value) (w : World), (Instr.makeFunc fn first cap).run Try.prog w = .ok (.func fn first cap) w := fun _ _ _ _ => rfl
  go_enter Try.func18, Try.ntmps18
  go_wp2_with fail
  refine (sresult 51 #[.pointer (some ⟨w.heap.size, 0, none⟩)] [a] (w.heap.size + 1) 1 _ (rw_new (by simp)) (by simp) (prS a) (fun _ => by rfl) (fun ha w' hB => print1_any a w.heap.size w' (rw_below hB (rw_alloc (rw_new rfl))) (by simp [allR, isB] at ha; omega))).mono ?_
  rintro e w1 ⟨rfl, hb⟩
  have hs_w1 := hb.size
  (try simp at hs_w1)
  have hB_w1 : Below w.heap.size w w1 := below_then (w := w) (by with_reducible repeat (first | exact Below.refl _ _ | assumption | ((first | refine Below.alloc ?_ ?b_ _ | refine bw_set ?_ ?b_ | refine Below.setCell ?_ ?b_ _); case b_ => first | omega | (simp; done) | (simp; omega)) | refine Below.drew ?_ | refine below_drewN ?_ _)) (by first | omega | (simp; done) | (simp; omega) | (have hq_ := hb.size; omega)) hb
  clear hb
  go_wp2_with fail
  exact bodyPost_ret (v := .tuple #[.string _, .int .i64 _]) (by simp [results, Try.results18, go_sem]) rfl ⟨rfl, (by with_reducible repeat (first | exact Below.refl _ _ | assumption | ((first | refine Below.alloc ?_ ?b_ _ | refine bw_set ?_ ?b_ | refine Below.setCell ?_ ?b_ _); case b_ => first | omega | (simp; done) | (simp; omega)) | refine Below.drew ?_ | refine below_drewN ?_ _))⟩
end Go.Proofs.Ytilchjpjmfaghaa.T3
