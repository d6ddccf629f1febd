/- chapter 12: the operator roll, 2. -/
import Derived.Test.YtiadenokcpnliaaStI
import Derived.WalkKit
import Derived.Lib.Hide
import Derived.Deep.QuietTactic
import Derived.BigQuiet
import Derived.Lib.QuietBelow
import Derived.Deep.RegionHeld3
import Derived.WalkLawsBesides
import Derived.WalkSpells
import Derived.Outline
import Derived.Deep.DeepFit
import Derived.Maps.AppendAt
import Derived.Deep.AppendLies
import Derived.Deep.CutRange
import Derived.Laws.MakeOwn
import Derived.Laws.CopyRow
import Derived.OpenShut
namespace Go.Proofs.Ytiadenokcpnliaa.T3
set_option linter.unusedSimpArgs false
set_option linter.unusedVariables false
open Go.RowKit
attribute [local go_sem] Oper.semAt_some
set_option maxHeartbeats 4000000
set_option maxRecDepth 100000

def z0 : Ob := ⟨0, false, 0, ⟨#[]⟩, 0, 0, 0⟩
def rollM (T : List Ob) (J : Int) (N i : Nat) : List Ob := (List.range N).map fun (m : Nat) => if (((m : Int) - J) % (N : Int)).toNat < i then at_ T (((m : Int) - J) % (N : Int)).toNat else z0
def rollV (T : List Ob) (J : Int) : List Ob := rollM T J T.length T.length
theorem rollM_len (T : List Ob) (J : Int) (N i : Nat) : (rollM T J N i).length = N := by simp [rollM]
theorem rollM_zero (T : List Ob) (J : Int) (N : Nat) : rollM T J N 0 = List.replicate N z0 := by
  refine List.ext_getElem (by simp [rollM]) fun m h1 h2 => ?_
  simp [rollM]
theorem rollM_step (T : List Ob) (J : Int) (N i p : Nat) (hi : i < N) (hp : ((i : Int) + J) % (N : Int) = p) : (rollM T J N i).set p (at_ T i) = rollM T J N (i + 1) := by
  have hN : (0 : Int) < N := by omega
  have hpN : p < N := by
    have := Int.emod_lt_of_pos ((i : Int) + J) hN
    omega
  refine List.ext_getElem (by simp [rollM]) fun m h1 h2 => ?_
  have hm : m < N := by simpa [rollM] using h2
  rw [List.getElem_set]
  simp only [rollM, List.getElem_map, List.getElem_range]
  have key : (((m : Int) - J) % (N : Int)).toNat = i ↔ p = m := by
    have n1 := Int.emod_nonneg ((m : Int) - J) (show (N : Int) ≠ 0 by omega)
    have n2 := Int.emod_lt_of_pos ((m : Int) - J) hN
    constructor
    · intro h
      have e1 : ((m : Int) - J) % N = i := by omega
      have e2 : ((i : Int) + J) % N = (((m : Int) - J) % N + J) % N := by rw [e1]
      rw [Int.emod_add_emod, show (m : Int) - J + J = m by omega, Int.emod_eq_of_lt (a := (m : Int)) (by omega) (by omega), hp] at e2
      omega
    · intro h
      subst h
      have e2 : ((p : Int) - J) % N = (((i : Int) + J) % N - J) % N := by rw [hp]
      rw [Int.emod_sub_emod, show (i : Int) + J - J = i by omega, Int.emod_eq_of_lt (a := (i : Int)) (by omega) (by omega)] at e2
      omega
  by_cases h : p = m
  · rw [if_pos h, if_pos (by rw [key.2 h]; omega), key.2 h]
  · rw [if_neg h]
    have hne : (((m : Int) - J) % (N : Int)).toNat ≠ i := fun hh => h (key.1 hh)
    by_cases h3 : (((m : Int) - J) % (N : Int)).toNat < i
    · rw [if_pos h3, if_pos (by omega)]
    · rw [if_neg h3, if_neg (by omega)]
theorem flat_set : ∀ (M : List Ob) (p : Nat) (q : Ob), p < M.length → (flat M).take (p * 7) ++ q.cs ++ (flat M).drop (p * 7 + 7) = flat (M.set p q)
  | [], p, q, h => by simp at h
  | a :: t, 0, q, h => by
    have : (flat (a :: t)).drop 7 = flat t := by
      simp only [flat, List.map_cons, List.flatten_cons]
      exact List.drop_left' (Ob.cs_len a)
    simp [this]
    simp [flat]
  | a :: t, p + 1, q, h => by
    have ih := flat_set t p q (by simpa using h)
    have e0 : flat (a :: t) = a.cs ++ flat t := by simp [flat]
    have e1 : (flat (a :: t)).take ((p + 1) * 7) = a.cs ++ (flat t).take (p * 7) := by
      rw [e0, show (p + 1) * 7 = a.cs.length + p * 7 by rw [Ob.cs_len]; omega, List.take_length_add_append]
    have e2 : (flat (a :: t)).drop ((p + 1) * 7 + 7) = (flat t).drop (p * 7 + 7) := by
      rw [e0, show (p + 1) * 7 + 7 = a.cs.length + (p * 7 + 7) by rw [Ob.cs_len]; omega, List.drop_length_add_append]
    rw [e1, e2, List.set_cons_succ]
    have e3 : flat (a :: t.set p q) = a.cs ++ flat (t.set p q) := by simp [flat]
    rw [e3, ← ih]
    simp [List.append_assoc]
theorem store_ob {w : World} {g : Nat} {M : List Ob} (hg : w.heap[g]? = some (.cells (flat M).toArray 43 (0, 0))) (p : Nat) (hp : p < M.length) (q : Ob) :
    (storeVar 43 ⟨g, p * 7, none⟩ (.agg #[.int .i64 q.k, .bool q.e, .int .i64 q.n, .string q.s, .int .i64 q.r, .int .i64 q.o, .int .i64 q.l])).run Try.prog w = .ok () (w.setRow g (flat (M.set p q)).toArray) := by
  have hl := flat_len M
  have hst := run_storeCells_at Try.prog g (p * 7) 43 q.cs 0 (flat M).toArray w hg (by simp [hl, Ob.cs_len]; omega) (by
    intro u hu
    simp only [Ob.cs, List.mem_cons, List.not_mem_nil, or_false] at hu
    rcases hu with rfl | rfl | rfl | rfl | rfl | rfl | rfl <;> rfl)
  simp only [Nat.add_zero, Ob.cs_len] at hst
  rw [flat_set M p q hp] at hst
  have hsz : (sizeOf 43).run Try.prog w = .ok 7 w := by kernel_rfl
  simp only [Ob.cs] at hst
  simp [storeVar, Sem.run_bind, hsz, Value.cells, hst]
theorem wp_store_run {o : Oper} {a : Act} {w W : World} {K : Act → World → Prop} {Q : Exit → Act → World → Prop} (ty : TypeId) (x y : Operand) (ho : o.op = .store ty x y) {p : Addr} {v : Value} (hx : a.eval x = .pointer (some p)) (hy : a.eval y = v) (hr : (storeVar ty p v).run Try.prog w = .ok () W)
    (h : K (a.put o.dst undef) W) : o.wp Try.prog a w K Q := by
  unfold Oper.wp execOp
  simp only [ho, hx, hy, Instr.storeAt, Instr.sureAddr, Sem.run_bind, Sem.run_pure, Result.andThen_ok, hr]
  exact h
theorem zeros7 (N : Nat) : madeCells #[.int .i64 0, .bool false, .int .i64 0, .string ⟨#[]⟩, .int .i64 0, .int .i64 0, .int .i64 0] (N * 7) = (flat (List.replicate N z0)).toArray := by
  refine Array.ext (by simp [size_madeCells, flat_len]) fun i h1 h2 => ?_
  have hi : i < N * 7 := by simpa [size_madeCells] using h1
  have hz : (List.replicate N z0)[i / 7]? = some z0 := by rw [List.getElem?_replicate, if_pos (by omega)]
  have hi7 : i % 7 = 0 ∨ i % 7 = 1 ∨ i % 7 = 2 ∨ i % 7 = 3 ∨ i % 7 = 4 ∨ i % 7 = 5 ∨ i % 7 = 6 := by omega
  have key : (flat (List.replicate N z0))[i]? = z0.cs[i % 7]? := by
    obtain ⟨u, hu⟩ : ∃ u, z0.cs[i % 7]? = some u := ⟨_, List.getElem?_eq_getElem (by rw [Ob.cs_len]; omega)⟩
    rw [hu]
    have := flat_get (List.replicate N z0) (i / 7) z0.cs (by rw [List.getElem?_map, hz]; rfl) (i % 7) u hu
    rwa [show i / 7 * 7 + i % 7 = i by omega] at this
  have k2 : (flat (List.replicate N z0)).toArray[i]? = some (flat (List.replicate N z0)).toArray[i] := Array.getElem?_eq_getElem h2
  have k3 : (flat (List.replicate N z0)).toArray[i]? = z0.cs[i % 7]? := by simpa using key
  rw [k3] at k2
  have k4 : z0.cs[i % 7]? = some (madeCells #[.int .i64 0, .bool false, .int .i64 0, .string ⟨#[]⟩, .int .i64 0, .int .i64 0, .int .i64 0] (N * 7))[i] := by
    simp only [madeCells, Array.getElem_map, Array.getElem_range]
    rcases hi7 with h | h | h | h | h | h | h <;> simp [h, z0, Ob.cs]
  rw [k4] at k2
  exact Option.some.inj k2
theorem make_ob (N : Nat) (hN : N ≤ 1000) (w : World) : Sem.run Try.prog (Instr.makeSlice 22 (.int .i64 (N : Int)) (.int .i64 (N : Int))) w = .ok (.slice (some ⟨w.heap.size, 0, none⟩) N N) (w.alloc (.cells (flat (List.replicate N z0)).toArray 43)) := by
  have hinfo : (Try.prog.info? 43).map (fun i => (i.zero, i.size, i.bytes)) = some (some (.agg #[.int .i64 0, .bool false, .int .i64 0, .string ⟨#[]⟩, .int .i64 0, .int .i64 0, .int .i64 0]), 7, 64) := by kernel_rfl
  cases hi : Try.prog.info? 43 with
  | none => simp [hi] at hinfo
  | some i =>
    simp only [hi, Option.map_some, Option.some.injEq, Prod.mk.injEq] at hinfo
    obtain ⟨hz, hs, hb⟩ := hinfo
    rw [run_makeSlice (P := Try.prog) w 22 43 i _ ul22 hi hz .i64 .i64 (N : Int) (N : Int) (by omega) (by omega) (by rw [hs]; omega) (by rw [hb]; omega) (by omega), hs]
    simp only [Int.toNat_natCast, Value.cells, zeros7]
end Go.Proofs.Ytiadenokcpnliaa.T3
