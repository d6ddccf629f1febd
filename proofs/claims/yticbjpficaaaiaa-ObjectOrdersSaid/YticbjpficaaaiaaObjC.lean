/- object.Check returns what okO tells, for every object. -/
import Derived.Test.YticbjpficaaaiaaObjM
import Derived.Test.YticbjpficaaaiaaObjR
import Derived.Test.YticbjpficaaaiaaGrow
import Derived.WalkKit
import Derived.Lib.Hide
import Derived.Deep.QuietTactic
import Derived.BigQuiet
import Derived.Lib.QuietBelow
import Derived.Deep.RegionHeld3
import Derived.WalkLawsBesides
import Derived.WalkSpells
import Derived.Outline
import Derived.Deep.DeepFit
import Derived.Maps.AppendAt
import Derived.Deep.AppendLies
import Derived.Deep.CutRange
import Derived.WalkMore
namespace Go.Proofs.Yticbjpficaaaiaa
set_option linter.unusedSimpArgs false
set_option linter.unusedVariables false
open Go.RowKit

theorem okR_iff {k R O L : Int} (h : 0 ≤ k ∧ k < 13) : okR k R O L ↔ okRf (kRf k) R O L := by
  have hc : k = 0 ∨ k = 1 ∨ k = 2 ∨ k = 3 ∨ k = 4 ∨ k = 5 ∨ k = 6 ∨ k = 7 ∨ k = 8 ∨ k = 9 ∨ k = 10 ∨ k = 11 ∨ k = 12 := by omega
  rcases hc with rfl | rfl | rfl | rfl | rfl | rfl | rfl | rfl | rfl | rfl | rfl | rfl | rfl <;> simp [okR, okRf, kRf, kMx, mxR]
theorem kRf_of (k : Int) : kRf k = 0 ∨ kRf k = 1 ∨ kRf k = 2 ∨ kRf k = 3 := by
  unfold kRf
  repeat (first | omega | split)
theorem fns_at0 (w : World) : Sem.run Try.prog (Instr.index 59 (.agg #[.func (.func 37) #[] #[], .func (.func 38) #[] #[], .func (.func 39) #[] #[]]) (.int .i64 0)) w = .ok (.func (.func 37) #[] #[]) w := by kernel_rfl
theorem fns_at1 (w : World) : Sem.run Try.prog (Instr.index 59 (.agg #[.func (.func 37) #[] #[], .func (.func 38) #[] #[], .func (.func 39) #[] #[]]) (.int .i64 1)) w = .ok (.func (.func 38) #[] #[]) w := by kernel_rfl
theorem fns_at2 (w : World) : Sem.run Try.prog (Instr.index 59 (.agg #[.func (.func 37) #[] #[], .func (.func 38) #[] #[], .func (.func 39) #[] #[]]) (.int .i64 2)) w = .ok (.func (.func 39) #[] #[]) w := by kernel_rfl
def CkRel (k N : Int) (S : ByteArray) (R O L : Int) (v : Value) : Prop := v = .int .i64 0 ∨ (v = .int .i64 1 ∧ Hid (kLo k ≤ N ∧ N ≤ kHi k)) ∨ (v = .int .i64 2 ∧ Hid (kLo k ≤ N ∧ N ≤ kHi k) ∧ Hid (kSh k ≤ (S.size : Int) ∧ (S.size : Int) ≤ kLg k)) ∨ (v = .int .i64 3 ∧ Hid (kLo k ≤ N ∧ N ≤ kHi k) ∧ Hid (kSh k ≤ (S.size : Int) ∧ (S.size : Int) ≤ kLg k) ∧ Hid (okRf (kRf k) R O L))
theorem cel6 {w : World} {b t : Nat} {v0 v1 v2 v3 v4 v5 : Value} (h : w.heap[b]? = some (.cells #[v0, v1, v2, v3, v4, v5] t (0, 0))) : w.cell? ⟨b, 0, none⟩ = some v0 ∧ w.cell? ⟨b, 1, none⟩ = some v1 ∧ w.cell? ⟨b, 2, none⟩ = some v2 ∧ w.cell? ⟨b, 3, none⟩ = some v3 ∧ w.cell? ⟨b, 4, none⟩ = some v4 ∧ w.cell? ⟨b, 5, none⟩ = some v5 := by
  refine ⟨?_, ?_, ?_, ?_, ?_, ?_⟩ <;> simp [World.cell?, h]
theorem cel7 {w : World} {b t : Nat} {v0 v1 v2 v3 v4 v5 v6 : Value} (h : w.heap[b]? = some (.cells #[v0, v1, v2, v3, v4, v5, v6] t (0, 0))) : w.cell? ⟨b, 0, none⟩ = some v0 ∧ w.cell? ⟨b, 1, none⟩ = some v1 ∧ w.cell? ⟨b, 2, none⟩ = some v2 ∧ w.cell? ⟨b, 3, none⟩ = some v3 ∧ w.cell? ⟨b, 4, none⟩ = some v4 ∧ w.cell? ⟨b, 5, none⟩ = some v5 ∧ w.cell? ⟨b, 6, none⟩ = some v6 := by
  refine ⟨?_, ?_, ?_, ?_, ?_, ?_, ?_⟩ <;> simp [World.cell?, h]
def oErr (k N : Int) (S : ByteArray) (R O L : Int) : Int := if okO k N S.size R O L then 0 else 200
end Go.Proofs.Yticbjpficaaaiaa
namespace Go.Proofs.Yticbjpficaaaiaa.T3
open Go.RowKit
set_option maxHeartbeats 4000000 in
theorem ocheck_any (k : Int) (X : Bool) (N : Int) (S : ByteArray) (R O L : Int) (w : World) :
    Calls Try.prog 14 #[.agg #[.int .i64 k, .bool X, .int .i64 N, .string S, .int .i64 R, .int .i64 O, .int .i64 L]] w fun e w' => e = .returned (.int .i64 (oErr k N S R O L)) ∧ Below w.heap.size w w' := by
  by_cases hk : 0 ≤ k ∧ k < 13
  · have hix := kinds_at k hk
    obtain ⟨hk0, hk1⟩ := hk
    go_enter Try.func14, Try.ntmps14
    go_wp2_with fail
    go_step3
    go_wp2_with fail
    refine wp_region_grow [(1, none), (2, none), (0, some (.val (fun v => v = .agg kinds78))), (3, none), (4, some (.blk (fun b => .pointer (some ⟨b, 0, none⟩)) (.cells #[.string ⟨#[]⟩, .int .i64 0, .int .i64 0, .int .i64 0, .int .i64 0, .int .i64 0] 54)))] (.s 5 .e .done) ?g1_ ?g2_ ?g3_ ?_
    case g1_ => kernel_rfl
    case g2_ => kernel_rfl
    case g3_ => exact fun _ _ _ _ _ h => h
    (apply wpG_p rfl rfl rfl rfl rfl; (intro w' K hK; (first | go_big_op | go_wp2_with fail); exact hK))
    (apply wpG_l rfl rfl rfl rfl rfl; (intro w' K hC hK; (have hr' := hC.old; simp at hr'); (first | go_big_op | go_wp2_with fail); exact hK); (case he => first | rfl | (simp [Act.put, *]; done)))
    refine wpG_g (d := 15) rfl rfl rfl rfl (by first | exact ⟨_, 0, rfl⟩ | (exact ⟨_, rfl⟩)) (fun w' K hC hK => ?_) (fun v hv => ?_)
    · (have hr' := hC.old; simp at hr'; (first | go_big_op | go_wp2_with fail); (refine Calls.mono (kinds_any _) ?_; rintro e w2 ⟨rfl, hb2⟩; exact hK _ _ rfl hb2 trivial))
    obtain rfl := hv
    (apply wpG_p rfl rfl rfl rfl rfl; (intro w' K hK; (first | go_big_op | go_wp2_with fail); exact hK))
    refine wpG_g (d := 3) rfl rfl rfl rfl (by first | exact ⟨_, 0, rfl⟩ | (fail)) (fun w' K hC hK => ?_) (fun v hv => ?_)
    · (have hr' := hC.old; simp at hr'; (first | go_big_op | go_wp2_with fail); (exact hK _ _ ⟨_, rfl⟩ (Below.alloc (Below.refl _ _) (Nat.le_refl _) _) ⟨_, rfl, Nat.le_refl _, by simp, heap_alloc_new _ _⟩))
    obtain ⟨b4, rfl⟩ := hv
    refine wpG_nil (fun w1 hB1 hG hD => ?_)
    obtain ⟨⟨b', e3, h3a, h3b, h3⟩, _⟩ := List.forall_mem_cons.1 hG; cases e3
    (try clear hD)
    refine wpOrd_e1 rfl rfl (fun K hK => ?_)
    refine wp_store_row 54 _ _ rfl b4 _ rfl rfl _ _ h3 (by kernel_rfl) rfl (by kernel_rfl) ?_; refine hK _ _ trivial ?_; clear hK K
    refine wpOrd_nil ?_
    skip
    obtain ⟨wy, hwy⟩ : ∃ wy, wy = w1.setRow b4 #[.string (kName k), .int .i64 (kLo k), .int .i64 (kHi k), .int .i64 (kSh k), .int .i64 (kLg k), .int .i64 (kRf k)] := ⟨_, rfl⟩
    have hb4 : w.heap.size < b4 := by simp at h3a; omega
    have hBy : Below w.heap.size w wy := by rw [hwy]; exact below_setRow (below_then (Below.drew (Below.alloc (Below.refl _ w) (Nat.le_refl _) _)) (by simp) hB1) _ _ (by omega)
    have hky : wy.heap[b4]? = some (.cells #[.string (kName k), .int .i64 (kLo k), .int .i64 (kHi k), .int .i64 (kSh k), .int .i64 (kLg k), .int .i64 (kRf k)] 54 (0, 0)) := by rw [hwy]; exact setRow_heap _ _ _ _ _ _ h3
    have hoy : wy.heap[w.heap.size]? = some (.cells #[.int .i64 k, .bool X, .int .i64 N, .string S, .int .i64 R, .int .i64 O, .int .i64 L] 23 (0, 0)) := by rw [hwy]; exact (setRow_other _ _ _ _ (by omega)).trans ((hB1.block _ (by simp)).trans (heap_alloc_new w _))
    have hly : b4 < wy.heap.size := by rw [hwy, size_setRow]; exact h3b
    rw [← hwy]
    clear hwy h3 h3a h3b hB1 hG hix
    go_wp2_with fail
    go_step3
    go_wp2_with fail
    go_loopw [4, 20] (fun v4 v wr => (v4 = .int .i64 0 ∧ CkRel k N S R O L v) ∧ Below w.heap.size w wr ∧ b4 < wr.heap.size ∧ wr.heap[b4]? = some (.cells #[.string (kName k), .int .i64 (kLo k), .int .i64 (kHi k), .int .i64 (kSh k), .int .i64 (kLg k), .int .i64 (kRf k)] 54 (0, 0)) ∧ w.heap.size < wr.heap.size ∧ wr.heap[w.heap.size]? = some (.cells #[.int .i64 k, .bool X, .int .i64 N, .string S, .int .i64 R, .int .i64 O, .int .i64 L] 23 (0, 0))) (fun _ v _ => 3 - (intOf v).toNat)
    case atStart => exact ⟨⟨rfl, .inl rfl⟩, hBy, hly, hky, by omega, hoy⟩
    case round =>
      obtain ⟨⟨rfl, hR⟩, hB, hlk, hkp, hlo, hop⟩ := hrel
      clear hBy hky hoy hly
      obtain ⟨r0, r1, r2, r3, r4, r5⟩ := cel6 hkp
      obtain ⟨o0, o1, o2, o3, o4, o5, o6⟩ := cel7 hop
      rcases hR with rfl | ⟨rfl, f0⟩ | ⟨rfl, f0, f1⟩ | ⟨rfl, f0, f1, f2⟩
      · have hi := fns_at0 wr
        go_wp2_with fail
        clear hi
        obtain ⟨bb, hbb⟩ : ∃ bb, bb = (decide (kLo k ≤ N) && decide (N ≤ kHi k)) := ⟨_, rfl⟩
        refine (number_any _ _ _ _ _ _ _ _ _ _ _ _ _ _).mono ?_
        rintro e w2 ⟨rfl, hb⟩
        rw [← hbb]
        have HB := Lib.hid hbb
        clear hbb
        have hB2 := below_then hB (by omega) hb
        have hkp2 := (hb.block b4 hlk).trans hkp
        have hop2 := (hb.block w.heap.size hlo).trans hop
        have hs2 := hb.size
        clear r0 r1 r2 r3 r4 r5 o0 o1 o2 o3 o4 o5 o6 hb
        cases bb
        · have HV := Lib.hid (show oErr k N S R O L = 200 from if_neg fun h => by have h1 := h.2.1; have h2 := HB.out; simp [h1.1, h1.2] at h2)
          go_wp2_with fail
          simp only [Exit.noGoto]
          go_ret
          exact ⟨by rw [HV.out]; rfl, hB2⟩
        · have HF := Lib.hid (show kLo k ≤ N ∧ N ≤ kHi k from by have h := HB.out; simpa using h.symm)
          go_wp2_with fail
          go_roundw
          case rel => exact ⟨⟨rfl, .inr (.inl ⟨rfl, HF⟩)⟩, hB2, by omega, hkp2, by omega, hop2⟩
          case measure => simp [intOf]
      · have hi := fns_at1 wr
        go_wp2_with fail
        clear hi
        obtain ⟨bb, hbb⟩ : ∃ bb, bb = (decide (kSh k ≤ (S.size : Int)) && decide ((S.size : Int) ≤ kLg k)) := ⟨_, rfl⟩
        refine (named_any _ _ _ _ _ _ _ _ _ _ _ _ _ _).mono ?_
        rintro e w2 ⟨rfl, hb⟩
        rw [← hbb]
        have HB := Lib.hid hbb
        clear hbb
        have hB2 := below_then hB (by omega) hb
        have hkp2 := (hb.block b4 hlk).trans hkp
        have hop2 := (hb.block w.heap.size hlo).trans hop
        have hs2 := hb.size
        clear r0 r1 r2 r3 r4 r5 o0 o1 o2 o3 o4 o5 o6 hb
        cases bb
        · have HV := Lib.hid (show oErr k N S R O L = 200 from if_neg fun h => by have h1 := h.2.2.1; have h2 := HB.out; simp [h1.1, h1.2] at h2)
          go_wp2_with fail
          simp only [Exit.noGoto]
          go_ret
          exact ⟨by rw [HV.out]; rfl, hB2⟩
        · have HF := Lib.hid (show kSh k ≤ (S.size : Int) ∧ (S.size : Int) ≤ kLg k from by have h := HB.out; simpa using h.symm)
          go_wp2_with fail
          go_roundw
          case rel => exact ⟨⟨rfl, .inr (.inr (.inl ⟨rfl, f0, HF⟩))⟩, hB2, by omega, hkp2, by omega, hop2⟩
          case measure => simp [intOf]
      · have hi := fns_at2 wr
        go_wp2_with fail
        clear hi
        obtain ⟨bb, hbb⟩ : ∃ bb, bb = (decide (okRf (kRf k) R O L)) := ⟨_, rfl⟩
        refine (referring_any _ _ _ _ _ _ _ _ _ _ _ _ _ _ (kRf_of k)).mono ?_
        rintro e w2 ⟨rfl, hb⟩
        rw [← hbb]
        have HB := Lib.hid hbb
        clear hbb
        have hB2 := below_then hB (by omega) hb
        have hkp2 := (hb.block b4 hlk).trans hkp
        have hop2 := (hb.block w.heap.size hlo).trans hop
        have hs2 := hb.size
        clear r0 r1 r2 r3 r4 r5 o0 o1 o2 o3 o4 o5 o6 hb
        cases bb
        · have HV := Lib.hid (show oErr k N S R O L = 200 from if_neg fun h => by have h1 := (okR_iff ⟨hk0, hk1⟩).1 h.2.2.2; have h2 := HB.out; simp [h1] at h2)
          go_wp2_with fail
          simp only [Exit.noGoto]
          go_ret
          exact ⟨by rw [HV.out]; rfl, hB2⟩
        · have HF := Lib.hid (show okRf (kRf k) R O L from by have h := HB.out; simpa using h.symm)
          go_wp2_with fail
          go_roundw
          case rel => exact ⟨⟨rfl, .inr (.inr (.inr ⟨rfl, f0, f1, HF⟩))⟩, hB2, by omega, hkp2, by omega, hop2⟩
          case measure => simp [intOf]
      · have HV := Lib.hid (show oErr k N S R O L = 0 from if_pos ⟨⟨hk0, hk1⟩, f0.out, f1.out, (okR_iff ⟨hk0, hk1⟩).2 f2.out⟩)
        go_wp2_with fail
        simp only [Exit.noGoto]
        go_ret
        exact ⟨by rw [HV.out]; rfl, hB⟩
  · have HV := Lib.hid (show oErr k N S R O L = 200 from if_neg fun h => hk h.1)
    go_enter Try.func14, Try.ntmps14
    by_cases hk0 : 0 ≤ k
    · have hk1 : ¬ k < 13 := fun h => hk ⟨hk0, h⟩
      clear hk
      go_wp2_with fail
      go_step3
      go_wp2_with fail
      simp only [Exit.noGoto]
      go_ret
      exact ⟨by rw [HV.out]; rfl, (by repeat (first | with_reducible exact Below.refl _ _ | with_reducible assumption | ((with_reducible refine Below.alloc ?_ ?hb_ _); (case hb_ => first | omega | (simp; done) | (simp; omega))) | ((with_reducible refine Below.setCell ?_ ?hb_ _); (case hb_ => first | omega | (simp; done) | (simp; omega))) | with_reducible refine Below.drew ?_ | with_reducible refine below_drewN ?_ _))⟩
    · clear hk
      go_wp2_with fail
      go_step3
      go_wp2_with fail
      simp only [Exit.noGoto]
      go_ret
      exact ⟨by rw [HV.out]; rfl, (by repeat (first | with_reducible exact Below.refl _ _ | with_reducible assumption | ((with_reducible refine Below.alloc ?_ ?hb_ _); (case hb_ => first | omega | (simp; done) | (simp; omega))) | ((with_reducible refine Below.setCell ?_ ?hb_ _); (case hb_ => first | omega | (simp; done) | (simp; omega))) | with_reducible refine Below.drew ?_ | with_reducible refine below_drewN ?_ _))⟩
end Go.Proofs.Yticbjpficaaaiaa.T3
