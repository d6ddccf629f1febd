/- color.Sample: the ink of one, three or four octets. -/
import Derived.Test.YtkkeahnmmpcceaaColC
import Derived.Lib.ConvBytes
import Derived.WalkKit
import Derived.Lib.Hide
import Derived.Deep.QuietTactic
import Derived.BigQuiet
import Derived.Lib.QuietBelow
import Derived.Deep.RegionHeld3
import Derived.WalkLawsBesides
import Derived.WalkSpells
import Derived.Outline
import Derived.Deep.DeepFit
import Derived.Maps.AppendAt
import Derived.Deep.AppendLies
namespace Go.Proofs.Ytkkeahnmmpcceaa
open Go.RowKit

theorem bcellC {W w1 : World} (hb : Below W.heap.size W w1) : (∀ b o, b < W.heap.size → w1.cell? ⟨b, o, none⟩ = W.cell? ⟨b, o, none⟩) ∧ (∀ b o, b < W.heap.size → w1.frozen? ⟨b, o, none⟩ = W.frozen? ⟨b, o, none⟩) :=
  ⟨fun b o h => hb.cell (p := ⟨b, o, none⟩) h, fun b o h => hb.frozen (p := ⟨b, o, none⟩) h⟩
def bz (s : ByteArray) (i : Nat) : Int := ((s.data.toList.getD i 0).toNat : Int)
theorem bz_bd (s : ByteArray) (i : Nat) : 0 ≤ bz s i ∧ bz s i ≤ 255 := by
  unfold bz
  have := (s.data.toList.getD i 0).toNat_lt
  omega
theorem own_base {w : World} {base : Nat} {e : TypeId} {size n : Nat} {v : Value} {xs : List Value} (h : w.ownsRow base e size v n xs) (k : Nat) (hk : v.ownBlock = some k) : base ≤ k := by
  rcases h.2 with ⟨rfl, _⟩ | ⟨g, cap, cur, rfl, hb, _⟩
  · simp [Value.ownBlock] at hk
  · have : g = k := by simpa [Value.ownBlock] using hk
    omega
theorem infoI : (Try.prog.info? 3).map (fun i => (i.zero, i.size, i.bytes)) = some (some (.int .i64 0), 1, 8) := by kernel_rfl

set_option maxHeartbeats 1000000 in
theorem csample_1 (s : ByteArray) (w : World) (hs : s.size = 1) :
    Calls Try.prog 17 #[.string s] w fun e w' => e = .returned (.tuple #[.agg #[.int .i64 0, .int .i64 0, .int .i64 0, .int .i64 (255 - bz s 0)], .int .i64 0]) ∧ Below w.heap.size w w' := by
  have kb := fun W => Lib.run_convert_string_bytes (P := Try.prog) W 9 22 5 s Try.underlying9 Try.underlying22 Try.underlying5
  have hz := bz_bd s
  obtain ⟨i0, hi, hz0, hz1, hz2⟩ := info_parts infoI
  have Hz := Lib.hid hz
  have Kb := Lib.hid kb
  clear hz kb
  go_enter Try.func17, Try.ntmps17
  go_wp2_with fail
  refine (kinds_any _).mono ?_
  rintro e w1 ⟨m, rfl, hm, hb1⟩
  have hs1 : w.heap.size + 1 ≤ w1.heap.size := by simpa using hb1.size
  have hB1 : Below w.heap.size w w1 := below_then (Below.alloc (Below.refl _ w) (Nat.le_refl _) _) (by simp) hb1
  have hl := kLook 1 hm
  rw [show kSel 1 = .func (.func 36) #[] #[] from rfl, show kIs 1 = true from rfl] at hl
  have hr0 : w1.heap[w.heap.size]? = some (.cells #[.int .i64 0, .int .i64 0, .int .i64 0, .int .i64 0] 41 (0, 0)) := by
    rw [hb1.block _ (by simp)]
    exact heap_alloc_new w _
  clear hb1
  have kb := Kb.out
  rw [hs] at kb
  go_wp2_with fail
  obtain ⟨W, hW⟩ : ∃ W, W = Lib.bytesWorld w1 5 s := ⟨_, rfl⟩
  rw [← hW]
  have hsW : W.heap.size = w1.heap.size + 1 := by rw [hW, Lib.bytesWorld_size]
  have hBW : Below w.heap.size w W := by
    rw [hW]
    exact hB1.trans ⟨rfl, rfl, rfl, by rw [Lib.bytesWorld_size]; omega, fun k hk => Lib.bytesWorld_at_old w1 5 s k (by omega)⟩
  have hcW : ∀ j, j < 1 → W.cell? ⟨w1.heap.size, j, none⟩ = some (.int .u8 (bz s j)) := by
    intro j hj
    rw [hW, Lib.bytesWorld_cell w1 5 s j (by omega)]
    rfl
  have hrW : W.heap[w.heap.size]? = some (.cells #[.int .i64 0, .int .i64 0, .int .i64 0, .int .i64 0] 41 (0, 0)) := by
    rw [hW, Lib.bytesWorld_at_old w1 5 s _ (by omega)]
    exact hr0
  have HrW := Lib.hid hrW
  have HcW := Lib.hid hcW
  have HsW := Lib.hid hsW
  have Hm := Lib.hid hm
  clear kb hW hsW hcW hm hr0 hrW hl
  go_loopw [6, 22] (fun v i wr => ∃ k : Nat, k ≤ 1 ∧ i = .int .i64 k ∧ wr.ownsRow (w1.heap.size + 1) 3 1 v k ((List.range k).map fun j => Value.int .i64 (bz s j)) ∧ Below (w1.heap.size + 1) W wr) (fun _ i _ => 1 - (intOf i).toNat)
  case atStart => exact ⟨0, Nat.zero_le _, rfl, World.ownsRow_nil _ _ _ _, Below.refl _ _⟩
  case round =>
    obtain ⟨k, hk, rfl, hown, hnx⟩ := hrel
    have hsz := hnx.size
    rw [HsW.out] at hsz
    by_cases hlt : k < 1
    · have hck : wr.cell? ⟨w1.heap.size, k, none⟩ = some (.int .u8 (bz s k)) := (hnx.cell (p := ⟨w1.heap.size, k, none⟩) (by simp)).trans (HcW.out k hlt)
      obtain ⟨z1, z2⟩ := Hz.out k
      go_wp2_with (at_builtin; refine wpList_append_own _ rfl _ _ 57 rfl (w1.heap.size + 1) 3 i0 (.int .i64 0) 1 8 Try.underlying57 hi hz0 hz1 hz2 rfl (by decide) _ _ _ rfl (hown.alloc _) ⟨wr.heap.size, 0, none⟩ 1 1 [.int .i64 (bz s k)] rfl rfl ?c1 ?c2 ?c3 ?c4 ?c5 ?_)
      case c1 =>
        intro j u hj
        match j, hj with
        | 0, hj => simp at hj; subst hj; simp [Addr.add]
      case c2 => intro u hu; simp at hu; subst hu; rfl
      case c3 => unfold maxLen; omega
      case c4 => omega
      case c5 => simp; omega
      intro v' w3 hown' hgrow _
      have hnx' : Below (w1.heap.size + 1) W w3 := (hnx.alloc (by omega) _).grown hgrow (by simp; omega) (own_base hown)
      clear hgrow hown hck
      go_wp2_with fail
      go_roundw
      case rel => exact ⟨k + 1, by omega, by go_num, by simpa [List.range_succ] using hown', hnx'⟩
      case measure => simp [intOf]; omega
    · obtain rfl : k = 1 := by omega
      obtain ⟨g, cap, rfl, hgb, hgl⟩ := hown.form (by omega)
      have hcell := hown.cells (g := g) rfl
      have e0 : wr.cell? ⟨g, 0, none⟩ = some (.int .i64 (bz s 0)) := by simpa [Addr.add] using hcell 0 _ rfl
      clear hcell hown
      obtain ⟨z0, y0⟩ := Hz.out 0
      go_wp2_with fail
      refine (k1_any _ _ _ _ z0 y0 e0).mono ?_
      rintro e w4 ⟨rfl, hb4⟩
      have h4 : w4.heap[w.heap.size]? = some (.cells #[.int .i64 0, .int .i64 0, .int .i64 0, .int .i64 0] 41 (0, 0)) := by
        rw [hb4.block _ (by omega), hnx.block _ (by omega)]
        exact HrW.out
      have hs4 := hb4.size
      have r0 : w4.cell? ⟨w.heap.size, 0, none⟩ = some (.int .i64 0) := by simp [World.cell?, h4]
      have r1 : w4.cell? ⟨w.heap.size, 1, none⟩ = some (.int .i64 0) := by simp [World.cell?, h4]
      have r2 : w4.cell? ⟨w.heap.size, 2, none⟩ = some (.int .i64 0) := by simp [World.cell?, h4]
      have r3 : w4.cell? ⟨w.heap.size, 3, none⟩ = some (.int .i64 0) := by simp [World.cell?, h4]
      have f0 : w4.frozen? ⟨w.heap.size, 0, none⟩ = false := by simp [World.frozen?, h4]
      have f1 : w4.frozen? ⟨w.heap.size, 1, none⟩ = false := by simp [World.frozen?, h4]
      have f2 : w4.frozen? ⟨w.heap.size, 2, none⟩ = false := by simp [World.frozen?, h4]
      have f3 : w4.frozen? ⟨w.heap.size, 3, none⟩ = false := by simp [World.frozen?, h4]
      have hB4 : Below w.heap.size w w4 := below_then (hBW.trans (hnx.mono (by omega))) (by omega) hb4
      clear h4 hb4 e0
      go_wp2_with fail
      exact bodyPost_ret (v := .tuple #[.agg #[.int .i64 0, .int .i64 0, .int .i64 0, .int .i64 (255 - bz s 0)], .int .i64 0]) (by simp [results, Try.results17, go_sem, r0, r1, r2, r3]) rfl ⟨rfl, (by repeat (first | with_reducible exact Below.refl _ _ | with_reducible assumption | ((with_reducible refine Below.alloc ?_ ?hb_ _); (case hb_ => first | omega | (simp; done) | (simp; omega))) | ((with_reducible refine Below.setCell ?_ ?hb_ _); (case hb_ => first | omega | (simp; done) | (simp; omega))) | with_reducible refine Below.drew ?_ | with_reducible refine below_drewN ?_ _))⟩
set_option maxHeartbeats 1000000 in
theorem csample_3 (s : ByteArray) (w : World) (hs : s.size = 3) :
    Calls Try.prog 17 #[.string s] w fun e w' => e = .returned (.tuple #[.agg #[.int .i64 (255 - bz s 0 - (255 - max3 (bz s 0) (bz s 1) (bz s 2))), .int .i64 (255 - bz s 1 - (255 - max3 (bz s 0) (bz s 1) (bz s 2))), .int .i64 (255 - bz s 2 - (255 - max3 (bz s 0) (bz s 1) (bz s 2))), .int .i64 (255 - max3 (bz s 0) (bz s 1) (bz s 2))], .int .i64 0]) ∧ Below w.heap.size w w' := by
  have kb := fun W => Lib.run_convert_string_bytes (P := Try.prog) W 9 22 5 s Try.underlying9 Try.underlying22 Try.underlying5
  have hz := bz_bd s
  obtain ⟨i0, hi, hz0, hz1, hz2⟩ := info_parts infoI
  have Hz := Lib.hid hz
  have Kb := Lib.hid kb
  clear hz kb
  go_enter Try.func17, Try.ntmps17
  go_wp2_with fail
  refine (kinds_any _).mono ?_
  rintro e w1 ⟨m, rfl, hm, hb1⟩
  have hs1 : w.heap.size + 1 ≤ w1.heap.size := by simpa using hb1.size
  have hB1 : Below w.heap.size w w1 := below_then (Below.alloc (Below.refl _ w) (Nat.le_refl _) _) (by simp) hb1
  have hl := kLook 3 hm
  rw [show kSel 3 = .func (.func 37) #[] #[] from rfl, show kIs 3 = true from rfl] at hl
  have hr0 : w1.heap[w.heap.size]? = some (.cells #[.int .i64 0, .int .i64 0, .int .i64 0, .int .i64 0] 41 (0, 0)) := by
    rw [hb1.block _ (by simp)]
    exact heap_alloc_new w _
  clear hb1
  have kb := Kb.out
  rw [hs] at kb
  go_wp2_with fail
  obtain ⟨W, hW⟩ : ∃ W, W = Lib.bytesWorld w1 5 s := ⟨_, rfl⟩
  rw [← hW]
  have hsW : W.heap.size = w1.heap.size + 1 := by rw [hW, Lib.bytesWorld_size]
  have hBW : Below w.heap.size w W := by
    rw [hW]
    exact hB1.trans ⟨rfl, rfl, rfl, by rw [Lib.bytesWorld_size]; omega, fun k hk => Lib.bytesWorld_at_old w1 5 s k (by omega)⟩
  have hcW : ∀ j, j < 3 → W.cell? ⟨w1.heap.size, j, none⟩ = some (.int .u8 (bz s j)) := by
    intro j hj
    rw [hW, Lib.bytesWorld_cell w1 5 s j (by omega)]
    rfl
  have hrW : W.heap[w.heap.size]? = some (.cells #[.int .i64 0, .int .i64 0, .int .i64 0, .int .i64 0] 41 (0, 0)) := by
    rw [hW, Lib.bytesWorld_at_old w1 5 s _ (by omega)]
    exact hr0
  have HrW := Lib.hid hrW
  have HcW := Lib.hid hcW
  have HsW := Lib.hid hsW
  have Hm := Lib.hid hm
  clear kb hW hsW hcW hm hr0 hrW hl
  go_loopw [6, 22] (fun v i wr => ∃ k : Nat, k ≤ 3 ∧ i = .int .i64 k ∧ wr.ownsRow (w1.heap.size + 1) 3 1 v k ((List.range k).map fun j => Value.int .i64 (bz s j)) ∧ Below (w1.heap.size + 1) W wr) (fun _ i _ => 3 - (intOf i).toNat)
  case atStart => exact ⟨0, Nat.zero_le _, rfl, World.ownsRow_nil _ _ _ _, Below.refl _ _⟩
  case round =>
    obtain ⟨k, hk, rfl, hown, hnx⟩ := hrel
    have hsz := hnx.size
    rw [HsW.out] at hsz
    by_cases hlt : k < 3
    · have hck : wr.cell? ⟨w1.heap.size, k, none⟩ = some (.int .u8 (bz s k)) := (hnx.cell (p := ⟨w1.heap.size, k, none⟩) (by simp)).trans (HcW.out k hlt)
      obtain ⟨z1, z2⟩ := Hz.out k
      go_wp2_with (at_builtin; refine wpList_append_own _ rfl _ _ 57 rfl (w1.heap.size + 1) 3 i0 (.int .i64 0) 1 8 Try.underlying57 hi hz0 hz1 hz2 rfl (by decide) _ _ _ rfl (hown.alloc _) ⟨wr.heap.size, 0, none⟩ 1 1 [.int .i64 (bz s k)] rfl rfl ?c1 ?c2 ?c3 ?c4 ?c5 ?_)
      case c1 =>
        intro j u hj
        match j, hj with
        | 0, hj => simp at hj; subst hj; simp [Addr.add]
      case c2 => intro u hu; simp at hu; subst hu; rfl
      case c3 => unfold maxLen; omega
      case c4 => omega
      case c5 => simp; omega
      intro v' w3 hown' hgrow _
      have hnx' : Below (w1.heap.size + 1) W w3 := (hnx.alloc (by omega) _).grown hgrow (by simp; omega) (own_base hown)
      clear hgrow hown hck
      go_wp2_with fail
      go_roundw
      case rel => exact ⟨k + 1, by omega, by go_num, by simpa [List.range_succ] using hown', hnx'⟩
      case measure => simp [intOf]; omega
    · obtain rfl : k = 3 := by omega
      obtain ⟨g, cap, rfl, hgb, hgl⟩ := hown.form (by omega)
      have hcell := hown.cells (g := g) rfl
      have e0 : wr.cell? ⟨g, 0, none⟩ = some (.int .i64 (bz s 0)) := by simpa [Addr.add] using hcell 0 _ rfl
      have e1 : wr.cell? ⟨g, 1, none⟩ = some (.int .i64 (bz s 1)) := by simpa [Addr.add] using hcell 1 _ rfl
      have e2 : wr.cell? ⟨g, 2, none⟩ = some (.int .i64 (bz s 2)) := by simpa [Addr.add] using hcell 2 _ rfl
      clear hcell hown
      obtain ⟨z0, y0⟩ := Hz.out 0
      obtain ⟨z1, y1⟩ := Hz.out 1
      obtain ⟨z2, y2⟩ := Hz.out 2
      go_wp2_with fail
      refine (k2_any _ _ _ _ _ _ z0 y0 z1 y1 z2 y2 e0 e1 e2).mono ?_
      rintro e w4 ⟨rfl, hb4⟩
      have h4 : w4.heap[w.heap.size]? = some (.cells #[.int .i64 0, .int .i64 0, .int .i64 0, .int .i64 0] 41 (0, 0)) := by
        rw [hb4.block _ (by omega), hnx.block _ (by omega)]
        exact HrW.out
      have hs4 := hb4.size
      have r0 : w4.cell? ⟨w.heap.size, 0, none⟩ = some (.int .i64 0) := by simp [World.cell?, h4]
      have r1 : w4.cell? ⟨w.heap.size, 1, none⟩ = some (.int .i64 0) := by simp [World.cell?, h4]
      have r2 : w4.cell? ⟨w.heap.size, 2, none⟩ = some (.int .i64 0) := by simp [World.cell?, h4]
      have r3 : w4.cell? ⟨w.heap.size, 3, none⟩ = some (.int .i64 0) := by simp [World.cell?, h4]
      have f0 : w4.frozen? ⟨w.heap.size, 0, none⟩ = false := by simp [World.frozen?, h4]
      have f1 : w4.frozen? ⟨w.heap.size, 1, none⟩ = false := by simp [World.frozen?, h4]
      have f2 : w4.frozen? ⟨w.heap.size, 2, none⟩ = false := by simp [World.frozen?, h4]
      have f3 : w4.frozen? ⟨w.heap.size, 3, none⟩ = false := by simp [World.frozen?, h4]
      have hB4 : Below w.heap.size w w4 := below_then (hBW.trans (hnx.mono (by omega))) (by omega) hb4
      clear h4 hb4 e0 e1 e2
      go_wp2_with fail
      exact bodyPost_ret (v := .tuple #[.agg #[.int .i64 (255 - bz s 0 - (255 - max3 (bz s 0) (bz s 1) (bz s 2))), .int .i64 (255 - bz s 1 - (255 - max3 (bz s 0) (bz s 1) (bz s 2))), .int .i64 (255 - bz s 2 - (255 - max3 (bz s 0) (bz s 1) (bz s 2))), .int .i64 (255 - max3 (bz s 0) (bz s 1) (bz s 2))], .int .i64 0]) (by simp [results, Try.results17, go_sem, r0, r1, r2, r3]) rfl ⟨rfl, (by repeat (first | with_reducible exact Below.refl _ _ | with_reducible assumption | ((with_reducible refine Below.alloc ?_ ?hb_ _); (case hb_ => first | omega | (simp; done) | (simp; omega))) | ((with_reducible refine Below.setCell ?_ ?hb_ _); (case hb_ => first | omega | (simp; done) | (simp; omega))) | with_reducible refine Below.drew ?_ | with_reducible refine below_drewN ?_ _))⟩
set_option maxHeartbeats 1000000 in
theorem csample_4 (s : ByteArray) (w : World) (hs : s.size = 4) :
    Calls Try.prog 17 #[.string s] w fun e w' => e = .returned (.tuple #[.agg #[.int .i64 (bz s 0), .int .i64 (bz s 1), .int .i64 (bz s 2), .int .i64 (bz s 3)], .int .i64 0]) ∧ Below w.heap.size w w' := by
  have kb := fun W => Lib.run_convert_string_bytes (P := Try.prog) W 9 22 5 s Try.underlying9 Try.underlying22 Try.underlying5
  have hz := bz_bd s
  obtain ⟨i0, hi, hz0, hz1, hz2⟩ := info_parts infoI
  have Hz := Lib.hid hz
  have Kb := Lib.hid kb
  clear hz kb
  go_enter Try.func17, Try.ntmps17
  go_wp2_with fail
  refine (kinds_any _).mono ?_
  rintro e w1 ⟨m, rfl, hm, hb1⟩
  have hs1 : w.heap.size + 1 ≤ w1.heap.size := by simpa using hb1.size
  have hB1 : Below w.heap.size w w1 := below_then (Below.alloc (Below.refl _ w) (Nat.le_refl _) _) (by simp) hb1
  have hl := kLook 4 hm
  rw [show kSel 4 = .func (.func 38) #[] #[] from rfl, show kIs 4 = true from rfl] at hl
  have hr0 : w1.heap[w.heap.size]? = some (.cells #[.int .i64 0, .int .i64 0, .int .i64 0, .int .i64 0] 41 (0, 0)) := by
    rw [hb1.block _ (by simp)]
    exact heap_alloc_new w _
  clear hb1
  have kb := Kb.out
  rw [hs] at kb
  go_wp2_with fail
  obtain ⟨W, hW⟩ : ∃ W, W = Lib.bytesWorld w1 5 s := ⟨_, rfl⟩
  rw [← hW]
  have hsW : W.heap.size = w1.heap.size + 1 := by rw [hW, Lib.bytesWorld_size]
  have hBW : Below w.heap.size w W := by
    rw [hW]
    exact hB1.trans ⟨rfl, rfl, rfl, by rw [Lib.bytesWorld_size]; omega, fun k hk => Lib.bytesWorld_at_old w1 5 s k (by omega)⟩
  have hcW : ∀ j, j < 4 → W.cell? ⟨w1.heap.size, j, none⟩ = some (.int .u8 (bz s j)) := by
    intro j hj
    rw [hW, Lib.bytesWorld_cell w1 5 s j (by omega)]
    rfl
  have hrW : W.heap[w.heap.size]? = some (.cells #[.int .i64 0, .int .i64 0, .int .i64 0, .int .i64 0] 41 (0, 0)) := by
    rw [hW, Lib.bytesWorld_at_old w1 5 s _ (by omega)]
    exact hr0
  have HrW := Lib.hid hrW
  have HcW := Lib.hid hcW
  have HsW := Lib.hid hsW
  have Hm := Lib.hid hm
  clear kb hW hsW hcW hm hr0 hrW hl
  go_loopw [6, 22] (fun v i wr => ∃ k : Nat, k ≤ 4 ∧ i = .int .i64 k ∧ wr.ownsRow (w1.heap.size + 1) 3 1 v k ((List.range k).map fun j => Value.int .i64 (bz s j)) ∧ Below (w1.heap.size + 1) W wr) (fun _ i _ => 4 - (intOf i).toNat)
  case atStart => exact ⟨0, Nat.zero_le _, rfl, World.ownsRow_nil _ _ _ _, Below.refl _ _⟩
  case round =>
    obtain ⟨k, hk, rfl, hown, hnx⟩ := hrel
    have hsz := hnx.size
    rw [HsW.out] at hsz
    by_cases hlt : k < 4
    · have hck : wr.cell? ⟨w1.heap.size, k, none⟩ = some (.int .u8 (bz s k)) := (hnx.cell (p := ⟨w1.heap.size, k, none⟩) (by simp)).trans (HcW.out k hlt)
      obtain ⟨z1, z2⟩ := Hz.out k
      go_wp2_with (at_builtin; refine wpList_append_own _ rfl _ _ 57 rfl (w1.heap.size + 1) 3 i0 (.int .i64 0) 1 8 Try.underlying57 hi hz0 hz1 hz2 rfl (by decide) _ _ _ rfl (hown.alloc _) ⟨wr.heap.size, 0, none⟩ 1 1 [.int .i64 (bz s k)] rfl rfl ?c1 ?c2 ?c3 ?c4 ?c5 ?_)
      case c1 =>
        intro j u hj
        match j, hj with
        | 0, hj => simp at hj; subst hj; simp [Addr.add]
      case c2 => intro u hu; simp at hu; subst hu; rfl
      case c3 => unfold maxLen; omega
      case c4 => omega
      case c5 => simp; omega
      intro v' w3 hown' hgrow _
      have hnx' : Below (w1.heap.size + 1) W w3 := (hnx.alloc (by omega) _).grown hgrow (by simp; omega) (own_base hown)
      clear hgrow hown hck
      go_wp2_with fail
      go_roundw
      case rel => exact ⟨k + 1, by omega, by go_num, by simpa [List.range_succ] using hown', hnx'⟩
      case measure => simp [intOf]; omega
    · obtain rfl : k = 4 := by omega
      obtain ⟨g, cap, rfl, hgb, hgl⟩ := hown.form (by omega)
      have hcell := hown.cells (g := g) rfl
      have e0 : wr.cell? ⟨g, 0, none⟩ = some (.int .i64 (bz s 0)) := by simpa [Addr.add] using hcell 0 _ rfl
      have e1 : wr.cell? ⟨g, 1, none⟩ = some (.int .i64 (bz s 1)) := by simpa [Addr.add] using hcell 1 _ rfl
      have e2 : wr.cell? ⟨g, 2, none⟩ = some (.int .i64 (bz s 2)) := by simpa [Addr.add] using hcell 2 _ rfl
      have e3 : wr.cell? ⟨g, 3, none⟩ = some (.int .i64 (bz s 3)) := by simpa [Addr.add] using hcell 3 _ rfl
      clear hcell hown
      go_wp2_with fail
      refine (k3_any _ _ _ _ _ _ _ e0 e1 e2 e3).mono ?_
      rintro e w4 ⟨rfl, hb4⟩
      have h4 : w4.heap[w.heap.size]? = some (.cells #[.int .i64 0, .int .i64 0, .int .i64 0, .int .i64 0] 41 (0, 0)) := by
        rw [hb4.block _ (by omega), hnx.block _ (by omega)]
        exact HrW.out
      have hs4 := hb4.size
      have r0 : w4.cell? ⟨w.heap.size, 0, none⟩ = some (.int .i64 0) := by simp [World.cell?, h4]
      have r1 : w4.cell? ⟨w.heap.size, 1, none⟩ = some (.int .i64 0) := by simp [World.cell?, h4]
      have r2 : w4.cell? ⟨w.heap.size, 2, none⟩ = some (.int .i64 0) := by simp [World.cell?, h4]
      have r3 : w4.cell? ⟨w.heap.size, 3, none⟩ = some (.int .i64 0) := by simp [World.cell?, h4]
      have f0 : w4.frozen? ⟨w.heap.size, 0, none⟩ = false := by simp [World.frozen?, h4]
      have f1 : w4.frozen? ⟨w.heap.size, 1, none⟩ = false := by simp [World.frozen?, h4]
      have f2 : w4.frozen? ⟨w.heap.size, 2, none⟩ = false := by simp [World.frozen?, h4]
      have f3 : w4.frozen? ⟨w.heap.size, 3, none⟩ = false := by simp [World.frozen?, h4]
      have hB4 : Below w.heap.size w w4 := below_then (hBW.trans (hnx.mono (by omega))) (by omega) hb4
      clear h4 hb4 e0 e1 e2 e3
      go_wp2_with fail
      exact bodyPost_ret (v := .tuple #[.agg #[.int .i64 (bz s 0), .int .i64 (bz s 1), .int .i64 (bz s 2), .int .i64 (bz s 3)], .int .i64 0]) (by simp [results, Try.results17, go_sem, r0, r1, r2, r3]) rfl ⟨rfl, (by repeat (first | with_reducible exact Below.refl _ _ | with_reducible assumption | ((with_reducible refine Below.alloc ?_ ?hb_ _); (case hb_ => first | omega | (simp; done) | (simp; omega))) | ((with_reducible refine Below.setCell ?_ ?hb_ _); (case hb_ => first | omega | (simp; done) | (simp; omega))) | with_reducible refine Below.drew ?_ | with_reducible refine below_drewN ?_ _))⟩
set_option maxHeartbeats 1000000 in
theorem csample_no (s : ByteArray) (w : World) (hs : ¬ (s.size = 1 ∨ s.size = 3 ∨ s.size = 4)) :
    Calls Try.prog 17 #[.string s] w fun e w' => e = .returned (.tuple #[.agg #[.int .i64 0, .int .i64 0, .int .i64 0, .int .i64 0], .int .i64 2]) ∧ Below w.heap.size w w' := by
  go_enter Try.func17, Try.ntmps17
  go_wp2_with fail
  refine (kinds_any _).mono ?_
  rintro e w1 ⟨m, rfl, hm, hb1⟩
  have hs1 : w.heap.size + 1 ≤ w1.heap.size := by simpa using hb1.size
  have hB1 : Below w.heap.size w w1 := below_then (Below.alloc (Below.refl _ w) (Nat.le_refl _) _) (by simp) hb1
  have hl := kLook (s.size : Int) hm
  rw [show kIs (s.size : Int) = false by simp only [kIs, decide_eq_false_iff_not]; omega, show kSel (s.size : Int) = .nilFunc by unfold kSel; rw [if_neg (by omega), if_neg (by omega), if_neg (by omega)]] at hl
  have h4 : w1.heap[w.heap.size]? = some (.cells #[.int .i64 0, .int .i64 0, .int .i64 0, .int .i64 0] 41 (0, 0)) := by
    rw [hb1.block _ (by simp)]
    exact heap_alloc_new w _
  have r0 : w1.cell? ⟨w.heap.size, 0, none⟩ = some (.int .i64 0) := by simp [World.cell?, h4]
  have r1 : w1.cell? ⟨w.heap.size, 1, none⟩ = some (.int .i64 0) := by simp [World.cell?, h4]
  have r2 : w1.cell? ⟨w.heap.size, 2, none⟩ = some (.int .i64 0) := by simp [World.cell?, h4]
  have r3 : w1.cell? ⟨w.heap.size, 3, none⟩ = some (.int .i64 0) := by simp [World.cell?, h4]
  have f0 : w1.frozen? ⟨w.heap.size, 0, none⟩ = false := by simp [World.frozen?, h4]
  have f1 : w1.frozen? ⟨w.heap.size, 1, none⟩ = false := by simp [World.frozen?, h4]
  have f2 : w1.frozen? ⟨w.heap.size, 2, none⟩ = false := by simp [World.frozen?, h4]
  have f3 : w1.frozen? ⟨w.heap.size, 3, none⟩ = false := by simp [World.frozen?, h4]
  clear h4 hb1 hm
  go_wp2_with fail
  exact bodyPost_ret (v := .tuple #[.agg #[.int .i64 0, .int .i64 0, .int .i64 0, .int .i64 0], .int .i64 2]) (by simp [results, Try.results17, go_sem, r0, r1, r2, r3]) rfl ⟨rfl, (by repeat (first | with_reducible exact Below.refl _ _ | with_reducible assumption | ((with_reducible refine Below.alloc ?_ ?hb_ _); (case hb_ => first | omega | (simp; done) | (simp; omega))) | ((with_reducible refine Below.setCell ?_ ?hb_ _); (case hb_ => first | omega | (simp; done) | (simp; omega))) | with_reducible refine Below.drew ?_ | with_reducible refine below_drewN ?_ _))⟩

/-- the ink of octets -/
def inkOf (s : ByteArray) : Value := if s.size = 1 then .agg #[.int .i64 0, .int .i64 0, .int .i64 0, .int .i64 (255 - bz s 0)] else if s.size = 3 then .agg #[.int .i64 (255 - bz s 0 - (255 - max3 (bz s 0) (bz s 1) (bz s 2))), .int .i64 (255 - bz s 1 - (255 - max3 (bz s 0) (bz s 1) (bz s 2))), .int .i64 (255 - bz s 2 - (255 - max3 (bz s 0) (bz s 1) (bz s 2))), .int .i64 (255 - max3 (bz s 0) (bz s 1) (bz s 2))] else if s.size = 4 then .agg #[.int .i64 (bz s 0), .int .i64 (bz s 1), .int .i64 (bz s 2), .int .i64 (bz s 3)] else .agg #[.int .i64 0, .int .i64 0, .int .i64 0, .int .i64 0]
def sampE (s : ByteArray) : Int := if s.size = 1 ∨ s.size = 3 ∨ s.size = 4 then 0 else 2
theorem csample_any (s : ByteArray) (w : World) :
    Calls Try.prog 17 #[.string s] w fun e w' => e = .returned (.tuple #[inkOf s, .int .i64 (sampE s)]) ∧ Below w.heap.size w w' := by
  by_cases h1 : s.size = 1
  · rw [show inkOf s = .agg #[.int .i64 0, .int .i64 0, .int .i64 0, .int .i64 (255 - bz s 0)] by simp [inkOf, h1], show sampE s = 0 by simp [sampE, h1]]
    exact csample_1 s w h1
  · by_cases h3 : s.size = 3
    · rw [show inkOf s = .agg #[.int .i64 (255 - bz s 0 - (255 - max3 (bz s 0) (bz s 1) (bz s 2))), .int .i64 (255 - bz s 1 - (255 - max3 (bz s 0) (bz s 1) (bz s 2))), .int .i64 (255 - bz s 2 - (255 - max3 (bz s 0) (bz s 1) (bz s 2))), .int .i64 (255 - max3 (bz s 0) (bz s 1) (bz s 2))] by simp [inkOf, h3], show sampE s = 0 by simp [sampE, h3]]
      exact csample_3 s w h3
    · by_cases h4 : s.size = 4
      · rw [show inkOf s = .agg #[.int .i64 (bz s 0), .int .i64 (bz s 1), .int .i64 (bz s 2), .int .i64 (bz s 3)] by simp [inkOf, h4], show sampE s = 0 by simp [sampE, h4]]
        exact csample_4 s w h4
      · rw [show inkOf s = .agg #[.int .i64 0, .int .i64 0, .int .i64 0, .int .i64 0] by simp [inkOf, h1, h3, h4], show sampE s = 2 by simp [sampE, h1, h3, h4]]
        exact csample_no s w (by omega)
end Go.Proofs.Ytkkeahnmmpcceaa
