/- chase/real: Is, floor, result, number; the reference's Is, Floor, end; cut and made of the laws. -/
import Derived.Test.YtilchjpjmfaghaaBase
import Derived.Test.YtilchjpjmfaghaaRow
import Derived.WalkKit
import Derived.Lib.Hide
import Derived.Deep.QuietTactic
import Derived.BigQuiet
import Derived.Lib.QuietBelow
import Derived.Deep.RegionHeld3
import Derived.WalkLawsBesides
import Derived.WalkSpells
import Derived.Outline
import Derived.Deep.DeepFit
import Derived.Maps.AppendAt
import Derived.Deep.AppendLies
namespace Go.Proofs.Ytilchjpjmfaghaa.T3
set_option linter.unusedSimpArgs false
set_option linter.unusedVariables false
open Go.RowKit
set_option maxHeartbeats 1000000
theorem cel1 {w : World} {b t : Nat} {v0 : Value} (h : w.heap[b]? = some (.cells #[v0] t (0, 0))) : w.cell? ⟨b, 0, none⟩ = some v0 := by
  simp [World.cell?, h]
theorem cel2 {w : World} {b t : Nat} {v0 v1 : Value} (h : w.heap[b]? = some (.cells #[v0, v1] t (0, 0))) : w.cell? ⟨b, 0, none⟩ = some v0 ∧ w.cell? ⟨b, 1, none⟩ = some v1 := by
  refine ⟨?_, ?_⟩ <;> simp [World.cell?, h]
theorem row_cells {w : World} {g t : Nat} {fr : Nat × Nat} (l : List Int) (h : w.heap[g]? = some (.cells (l.map (Value.int .i64)).toArray t fr)) : ∀ j, j < l.length → w.cell? ⟨g, 0 + j, none⟩ = some (.int .i64 (l.getD j 0)) := by
  intro j hj
  rw [cell_of_row w g (0 + j) _ _ _ h]
  simp [List.getElem?_eq_getElem hj, List.getD_eq_getElem?_getD]
theorem mul_bd {a b X Y : Int} (ha : -X ≤ a) (ha' : a ≤ X) (hb : -Y ≤ b) (hb' : b ≤ Y) : -(X * Y) ≤ a * b ∧ a * b ≤ X * Y := by
  have h1 : a.natAbs ≤ X.natAbs := by omega
  have h2 : b.natAbs ≤ Y.natAbs := by omega
  have h3 := Nat.mul_le_mul h1 h2
  rw [← Int.natAbs_mul, ← Int.natAbs_mul] at h3
  have h4 : 0 ≤ X * Y := Int.mul_nonneg (by omega) (by omega)
  omega
theorem ediv_pos_of_tdiv (n d : Int) (hd : 0 < d) : n / d = if n.tmod d < 0 then n.tdiv d - 1 else n.tdiv d := by
  rw [Int.tdiv_eq_ediv, Int.tmod_eq_emod]
  have h0 := Int.emod_nonneg n (show d ≠ 0 by omega)
  have h1 := Int.emod_lt_of_pos n hd
  have h2 : d.sign = 1 := Int.sign_eq_one_of_pos hd
  have h3 : (d.natAbs : Int) = d := by omega
  by_cases hn : 0 ≤ n
  · simp [hn]; omega
  · by_cases hv : d ∣ n
    · have := Int.emod_eq_zero_of_dvd hv
      simp [hv, this]
    · have : n % d ≠ 0 := fun h => hv (Int.dvd_of_emod_eq_zero h)
      simp [hn, hv, h2, h3]
      omega
theorem tdiv_bd (n d X : Int) (h : -X ≤ n) (h' : n ≤ X) : -X ≤ n.tdiv d ∧ n.tdiv d ≤ X := by
  have h1 := Int.natAbs_tdiv_le_natAbs n d
  omega

def isB (n : Int) : Bool := decide (-2147483648 ≤ n ∧ n ≤ 2147483648)
theorem mis_any (n : Int) (w : World) :
    Calls Try.prog 29 #[.int .i64 n] w fun e w' => e = .returned (.bool (isB n)) ∧ w = w' := by
  go_enter Try.func29, Try.ntmps29
  by_cases h1 : -2147483648 ≤ n
  · by_cases h2 : n ≤ 2147483648
    · have H := Lib.hid (show isB n = true by simp [isB, h1, h2])
      go_wp2_with fail
      go_ret
      exact ⟨by rw [H.out]; rfl, rfl⟩
    · have H := Lib.hid (show isB n = false by simp [isB]; omega)
      go_wp2_with fail
      go_ret
      exact ⟨by rw [H.out]; rfl, rfl⟩
  · have H := Lib.hid (show isB n = false by simp [isB]; omega)
    go_wp2_with fail
    go_ret
    exact ⟨by rw [H.out]; rfl, rfl⟩
theorem ris_any (n : Int) (w : World) :
    Calls Try.prog 19 #[.int .i64 n] w fun e w' => e = .returned (.bool (isB n)) ∧ w = w' := by
  go_enter Try.func19, Try.ntmps19
  by_cases h1 : -2147483648 ≤ n
  · by_cases h2 : n ≤ 2147483648
    · have H := Lib.hid (show isB n = true by simp [isB, h1, h2])
      go_wp2_with fail
      go_ret
      exact ⟨by rw [H.out]; rfl, rfl⟩
    · have H := Lib.hid (show isB n = false by simp [isB]; omega)
      go_wp2_with fail
      go_ret
      exact ⟨by rw [H.out]; rfl, rfl⟩
  · have H := Lib.hid (show isB n = false by simp [isB]; omega)
    go_wp2_with fail
    go_ret
    exact ⟨by rw [H.out]; rfl, rfl⟩
theorem mfloor_any (n d : Int) (w : World) (hd : 0 < d) (hn : -9223372036854775807 ≤ n) (hn2 : n ≤ 9223372036854775807) (hd2 : d ≤ 4611686018427387904) :
    Calls Try.prog 45 #[.int .i64 n, .int .i64 d] w fun e w' => e = .returned (.int .i64 (n / d)) ∧ w = w' := by
  have hf := ediv_pos_of_tdiv n d hd
  obtain ⟨hb1, hb2⟩ := tdiv_bd n d 9223372036854775807 hn hn2
  have Hf := Lib.hid hf
  clear hf
  go_enter Try.func45, Try.ntmps45
  by_cases hc : n.tmod d < 0
  · go_wp2_with fail
    go_ret
    exact ⟨ret_int (by rw [Hf.out, if_pos hc]), rfl⟩
  · go_wp2_with fail
    go_ret
    exact ⟨ret_int (by rw [Hf.out, if_neg (by omega)]), rfl⟩
theorem rfloor_any (n d : Int) (w : World) (hd : 0 < d) (hn : -9223372036854775807 ≤ n) (hn2 : n ≤ 9223372036854775807) (hd2 : d ≤ 4611686018427387904) :
    Calls Try.prog 47 #[.int .i64 n, .int .i64 d] w fun e w' => e = .returned (.int .i64 (n / d)) ∧ w = w' := by
  have hf := ediv_pos_of_tdiv n d hd
  obtain ⟨hb1, hb2⟩ := tdiv_bd n d 9223372036854775807 hn hn2
  have Hf := Lib.hid hf
  clear hf
  go_enter Try.func47, Try.ntmps47
  by_cases hc : n.tmod d < 0
  · go_wp2_with fail
    go_ret
    exact ⟨ret_int (by rw [Hf.out, if_pos hc]), rfl⟩
  · go_wp2_with fail
    go_ret
    exact ⟨ret_int (by rw [Hf.out, if_neg (by omega)]), rfl⟩
def endV (n : Int) : Int := if isB n = true then n else 0
def endE (n : Int) : Int := if isB n = true then 0 else 25
theorem rend_any (n : Int) (w : World) :
    Calls Try.prog 46 #[.int .i64 n] w fun e w' => e = .returned (.tuple #[.int .i64 (endV n), .int .i64 (endE n)]) ∧ w = w' := by
  cases h : isB n
  · rw [endV, endE, h]
    have H := Lib.hid h
    clear h
    go_enter Try.func46, Try.ntmps46
    go_wp2_with fail
    refine (ris_any _ _).mono ?_
    rintro e w' ⟨rfl, rfl⟩
    rw [H.out]
    go_wp2_with fail
    exact bodyPost_ret (v := .tuple #[.int .i64 0, .int .i64 25]) (by simp [results, Try.results46, go_sem]) rfl ⟨rfl, rfl⟩
  · rw [endV, endE, h]
    have H := Lib.hid h
    clear h
    go_enter Try.func46, Try.ntmps46
    go_wp2_with fail
    refine (ris_any _ _).mono ?_
    rintro e w' ⟨rfl, rfl⟩
    rw [H.out]
    go_wp2_with fail
    exact bodyPost_ret (v := .tuple #[.int .i64 n, .int .i64 0]) (by simp [results, Try.results46, go_sem]) rfl ⟨rfl, rfl⟩
def cutV (n : Int) : Int := if isB n = true then n else n.tmod 2147483648
theorem cut_any (n : Int) (w : World) :
    Calls Try.prog 12 #[.int .i64 n] w fun e w' => e = .returned (.int .i64 (cutV n)) ∧ w = w' := by
  cases h : isB n
  · rw [cutV, h]
    have H := Lib.hid h
    clear h
    go_enter Try.func12, Try.ntmps12
    go_wp2_with fail
    refine (ris_any _ _).mono ?_
    rintro e w' ⟨rfl, rfl⟩
    rw [H.out]
    go_wp2_with fail
    go_ret
    exact ⟨rfl, rfl⟩
  · rw [cutV, h]
    have H := Lib.hid h
    clear h
    go_enter Try.func12, Try.ntmps12
    go_wp2_with fail
    refine (ris_any _ _).mono ?_
    rintro e w' ⟨rfl, rfl⟩
    rw [H.out]
    go_wp2_with fail
    go_ret
    exact ⟨rfl, rfl⟩
theorem made_any (n : Int) (w : World) :
    Calls Try.prog 23 #[.int .i64 n] w fun e w' => e = .returned (.int .i64 (n.tmod 2147483649)) ∧ w = w' := by
  go_enter Try.func23, Try.ntmps23
  go_wp2_with fail
  go_ret
  exact ⟨rfl, rfl⟩
def allR (l : List Int) : Bool := l.all isB
theorem allR_take (l : List Int) (k : Nat) (hk : k < l.length) : allR (l.take (k+1)) = (allR (l.take k) && isB l[k]) := by
  unfold allR
  rw [List.take_succ_eq_append_getElem hk, List.all_append]
  simp
theorem allR_no (l : List Int) (k : Nat) (hk : k < l.length) (h : isB l[k] = false) : allR l = false := by
  unfold allR
  rw [List.all_eq_false]
  exact ⟨l[k], List.getElem_mem hk, by simp [h]⟩
def rsE (l : List Int) (n er : Int) : Int := if allR l = true then (if er = 0 then (if isB n = true then 0 else 25) else er) else 2
def rsV (l : List Int) (y n er : Int) : Int := if rsE l n er = 0 then y else 0
theorem mresult (f : Nat) (cap : Array Value) (l : List Int) (g c : Nat) (w : World) (hg : w.heap[g]? = some (.cells (l.map (Value.int .i64)).toArray 3 (0, 0))) (hl : l.length ≤ 100) (y n er : Int) (hcf : ∀ (w : World), (callFunc f cap).run Try.prog w = .ok (.enter f cap) w)
    (hf : allR l = true → ∀ w', Below w.heap.size w w' → Calls Try.prog f cap w' fun e w'' => e = .returned (.tuple #[.int .i64 y, .int .i64 n, .int .i64 er]) ∧ Below w'.heap.size w' w'') :
    Calls Try.prog 48 #[.func (.func f) #[] cap, .slice (some ⟨g, 0, none⟩) l.length c] w fun e w' => e = .returned (.tuple #[.int .i64 (rsV l y n er), .int .i64 (rsE l n er)]) ∧ Below w.heap.size w w' := by
  have hc := row_cells l hg
  go_enter Try.func48, Try.ntmps48
  go_wp2_with fail
  go_loop [4, 12] (fun z i => z = .int .i64 0 ∧ ∃ k : Nat, k ≤ l.length ∧ i = .int .i64 k ∧ allR (l.take k) = true) (fun _ i => l.length - (intOf i).toNat)
  case atStart => exact ⟨rfl, 0, Nat.zero_le _, rfl, by simp [allR]⟩
  case round =>
    obtain ⟨rfl, k, hk, rfl, hw⟩ := hrel
    by_cases hlt : k < l.length
    · have hck : w.cell? ⟨g, k, none⟩ = some (.int .i64 l[k]) := by have h9 := hc k hlt; simpa [List.getD_eq_getElem?_getD, List.getElem?_eq_getElem hlt] using h9
      have ht := allR_take l k hlt
      have Hw := Lib.hid hw
      have Ht := Lib.hid ht
      clear hw ht
      cases hb : isB l[k]
      · have Hno := Lib.hid (allR_no l k hlt hb)
        have Hb := Lib.hid hb
        clear hb
        go_wp2_with fail
        refine (mis_any _ _).mono ?_
        rintro e w' ⟨rfl, rfl⟩
        rw [Hb.out]
        go_wp2_with fail
        exact bodyPost_ret (v := .tuple #[.int .i64 0, .int .i64 2]) (by simp [results, Try.results48, go_sem]) rfl ⟨by rw [rsV, rsE, Hno.out]; rfl, (by with_reducible repeat (first | exact Below.refl _ _ | assumption | ((first | refine Below.alloc ?_ ?b_ _ | refine bw_set ?_ ?b_ | refine Below.setCell ?_ ?b_ _); case b_ => first | omega | (simp; done) | (simp; omega)) | refine Below.drew ?_ | refine below_drewN ?_ _))⟩
      · have Hb := Lib.hid hb
        clear hb
        go_wp2_with fail
        refine (mis_any _ _).mono ?_
        rintro e w' ⟨rfl, rfl⟩
        rw [Hb.out]
        go_wp2_with fail
        go_round
        case rel => exact ⟨rfl, k + 1, by omega, by go_num, by rw [Ht.out, Hw.out, Hb.out]; rfl⟩
        case measure => simp [intOf]; omega
    · have hkl : k = l.length := by omega
      have hall : allR l = true := by rw [← hw, hkl, List.take_length]
      have Hf := hf hall w (Below.refl _ _)
      have HE := Lib.hid (show rsE l n er = if er = 0 then (if isB n = true then 0 else 25) else er from if_pos hall)
      clear hw hf hc hall
      subst hkl
      by_cases he : er = 0
      · subst he
        cases hb : isB n
        · have Hb := Lib.hid hb
          clear hb
          go_wp2_with fail
          refine Hf.mono ?_
          rintro e w1 ⟨rfl, hB⟩
          go_wp2_with fail
          refine (mis_any _ _).mono ?_
          rintro e w' ⟨rfl, rfl⟩
          rw [Hb.out]
          go_wp2_with fail
          exact bodyPost_ret (v := .tuple #[.int .i64 0, .int .i64 25]) (by simp [results, Try.results48, go_sem]) rfl ⟨by rw [rsV, HE.out, Hb.out]; rfl, hB⟩
        · have Hb := Lib.hid hb
          clear hb
          go_wp2_with fail
          refine Hf.mono ?_
          rintro e w1 ⟨rfl, hB⟩
          go_wp2_with fail
          refine (mis_any _ _).mono ?_
          rintro e w' ⟨rfl, rfl⟩
          rw [Hb.out]
          go_wp2_with fail
          exact bodyPost_ret (v := .tuple #[.int .i64 y, .int .i64 0]) (by simp [results, Try.results48, go_sem]) rfl ⟨by rw [rsV, HE.out, Hb.out]; rfl, hB⟩
      · have h1 : (er == 0) = false := by simpa using he
        have h2 : (er != 0) = true := by simpa using he
        go_wp2_with fail
        refine Hf.mono ?_
        rintro e w1 ⟨rfl, hB⟩
        go_wp2_with fail
        exact bodyPost_ret (v := .tuple #[.int .i64 0, .int .i64 er]) (by simp [results, Try.results48, go_sem]) rfl ⟨by rw [rsV, HE.out, if_neg he, if_neg he], hB⟩
theorem mnumber1 (f b : Nat) (cap : Array Value) (w : World) (hcf : ∀ (w : World), (callFunc f cap).run Try.prog w = .ok (.enter f cap) w) {t : TypeId} (hb : w.heap[b]? = some (.cells #[.func (.func f) #[] cap] t (0, 0))) (y : Int)
    (hf : Calls Try.prog f cap w fun e w'' => e = .returned (.int .i64 y) ∧ Below w.heap.size w w'') :
    Calls Try.prog 71 #[.pointer (some ⟨b, 0, none⟩)] w fun e w' => e = .returned (.tuple #[.int .i64 y, .int .i64 y, .int .i64 0]) ∧ Below w.heap.size w w' := by
  have c0 := cel1 hb
  go_enter Try.func71, Try.ntmps71
  go_wp2_with fail
  refine hf.mono ?_
  rintro e w1 ⟨rfl, hB⟩
  go_wp2_with fail
  exact bodyPost_ret (v := .tuple #[.int .i64 y, .int .i64 y, .int .i64 0]) (by simp [results, Try.results71, go_sem]) rfl ⟨rfl, hB⟩
theorem mnumber (f : Nat) (cap : Array Value) (l : List Int) (g c : Nat) (w : World) (hg : w.heap[g]? = some (.cells (l.map (Value.int .i64)).toArray 3 (0, 0))) (hl : l.length ≤ 100) (y : Int) (hcf : ∀ (w : World), (callFunc f cap).run Try.prog w = .ok (.enter f cap) w)
    (hf : allR l = true → ∀ w', Below w.heap.size w w' → Calls Try.prog f cap w' fun e w'' => e = .returned (.int .i64 y) ∧ Below w'.heap.size w' w'') :
    Calls Try.prog 43 #[.func (.func f) #[] cap, .slice (some ⟨g, 0, none⟩) l.length c] w fun e w' => e = .returned (.tuple #[.int .i64 (rsV l y y 0), .int .i64 (rsE l y 0)]) ∧ Below w.heap.size w w' := by
  have hmf : ∀ (fn : Fn) (first cap : Array Value) (w : World), (Instr.makeFunc fn first cap).run Try.prog w = .ok (.func fn first cap) w := fun _ _ _ _ => rfl
  have hlg := rw_lt hg
  go_enter Try.func43, Try.ntmps43
  go_wp2_with fail
  refine (mresult 71 _ l g c _ (rw_alloc hg) hl y y 0 (fun _ => by rfl) (fun ha w' hB => mnumber1 f w.heap.size cap w' hcf (rw_below hB (rw_new rfl)) y (hf ha w' (below_then (Below.alloc (Below.refl _ _) (Nat.le_refl _) _) (by simp) hB)))).mono ?_
  rintro e w1 ⟨rfl, hB⟩
  have hB1 := below_then (Below.alloc (Below.refl w.heap.size w) (Nat.le_refl _) _) (by simp) hB
  go_wp2_with fail
  exact bodyPost_ret (v := .tuple #[.int .i64 _, .int .i64 _]) (by simp [results, Try.results43, go_sem]) rfl ⟨rfl, hB1⟩
end Go.Proofs.Ytilchjpjmfaghaa.T3
