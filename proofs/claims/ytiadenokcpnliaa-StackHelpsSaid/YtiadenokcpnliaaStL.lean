/- chapter 12: Do. -/
import Derived.Test.YtiadenokcpnliaaStK
import Derived.WalkKit
import Derived.Lib.Hide
import Derived.Deep.QuietTactic
import Derived.BigQuiet
import Derived.Lib.QuietBelow
import Derived.Deep.RegionHeld3
import Derived.WalkLawsBesides
import Derived.WalkSpells
import Derived.Outline
import Derived.Deep.DeepFit
import Derived.Maps.AppendAt
import Derived.Deep.AppendLies
import Derived.Deep.CutRange
import Derived.Laws.Tables
import Derived.OpenShut
namespace Go.Proofs.Ytiadenokcpnliaa.T3
set_option linter.unusedSimpArgs false
set_option linter.unusedVariables false
open Go.RowKit
attribute [local go_sem] Oper.semAt_some
set_option maxHeartbeats 4000000
set_option maxRecDepth 100000

theorem foldl_set : ∀ (l : List Value) (k : Nat) (c : Array Value), k + l.length ≤ c.size → ((l.zipIdx k).foldl (fun cs x => cs.setIfInBounds (0 + x.2) x.1) c).toList = c.toList.take k ++ l ++ c.toList.drop (k + l.length)
  | [], k, c, _ => by simp
  | a :: t, k, c, h => by
    have hk : k < c.toList.length := by simp at h ⊢; omega
    have ih := foldl_set t (k + 1) (c.setIfInBounds (0 + k) a) (by simp at h ⊢; omega)
    simp only [List.zipIdx_cons, List.foldl_cons]
    rw [ih]
    simp only [Nat.zero_add, Array.toList_setIfInBounds, List.length_cons]
    rw [show k + 1 + t.length = k + (t.length + 1) by omega, List.drop_set, if_pos (by omega)]
    have e : (c.toList.set k a).take (k + 1) = c.toList.take k ++ [a] := by
      rw [List.take_set, List.take_add_one, List.getElem?_eq_getElem hk]
      simp only [Option.toList_some]
      rw [List.set_append_right _ _ (by simp; omega)]
      have hk2 : k < c.size := by simpa using hk
      simp [List.length_take]
      rw [show k - min k c.size = 0 by omega]
      rfl
    rw [e]
    simp [List.append_assoc]
theorem build83 {R : List Value} (hR : OkR R) (v : Value) (w : World) : Sem.run Try.prog (Instr.build 83 #[(0, .agg (stA v R))]) w = .ok (.agg (stA v R)) w := by
  refine run_build w _ _ _ ?_
  have h1 : (Try.prog.info? 83).map (fun i => i.zero.map (·.cells.size)) = some (some 67) := by kernel_rfl
  have h2 : ∃ fs, Try.prog.underlying 83 = some (.struct fs) ∧ fs.toList.mapM (fun f => (Try.prog.info? f.type).map fun i => (f.offset, i.size)) = some [(0, 67)] := ⟨_, Try.underlying83, by kernel_rfl⟩
  obtain ⟨fs, hu, hp⟩ := h2
  unfold Program.built
  rw [hu]
  cases hi : Try.prog.info? 83 with
  | none => rw [hi] at h1; simp at h1
  | some i =>
    rw [hi] at h1
    cases hz : i.zero with
    | none => simp [hz] at h1
    | some z =>
      simp only [Option.map_some, hz, Option.some.injEq] at h1
      simp only [hz, hp]
      generalize z.cells = zc at h1 ⊢
      have hs : (stA v R).size = 67 := by rw [stA_size, hR.len]
      simp only [Instr.fill, Value.cells]
      have hf := foldl_set (stA v R).toList 0 zc (by simp [hs, h1])
      have hl : (stA v R).toList.length = zc.toList.length := by simp [hs, h1]
      simp only [Nat.zero_add, List.take_zero, List.nil_append, hl, List.drop_length, List.append_nil] at hf
      simp [hs, h1]
      apply Array.toList_inj.1
      rw [show (67 : Nat) = (stA v R).zipIdx.size by simp [hs], ← Array.foldl_toList, Array.toList_zipIdx]
      exact hf
theorem ul84 : Try.prog.underlying 84 = some (.map 9 80) := Try.underlying84
theorem ins_run (W : World) (es : Array MapEntry) (c : Nat) (S : ByteArray) (v : Value) (hf : Instr.findNow .string (.string S) es.toList 0 = some none) :
    (Instr.mapUpdate 84 (.map (some W.heap.size)) (.string S) v).run Try.prog (W.alloc (.map es c)) = .ok () (W.alloc (.map (es.push ⟨.string S, v, c⟩) (c + 1))) := by
  have hb : (W.alloc (.map es c)).heap[W.heap.size]? = some (.map es c) := heap_alloc_new W _
  have hk := Try.underlying9
  have hc : (Instr.checkKey false 10000 9 (.string S)).run Try.prog (W.alloc (.map es c)) = .ok () (W.alloc (.map es c)) := MapKept.run_checkKey (k := .string S) hk (by simp [MapKept.IsKey]) false 9999
  simp only [Instr.mapUpdate, Sem.run_bind, run_underlying ul84, MapKept.run_getObj_map hb, hc, MapKept.run_findKey hk hf, Result.andThen_ok, MapKept.run_setObj_map _ hb]
  congr 1
  simp [World.alloc, -World.alloc_eq]
  apply Array.toList_inj.1
  simp [List.set_append]
theorem look_run (W : World) (g : Nat) (es : Array MapEntry) (c : Nat) (S : ByteArray) (i : Nat) (v : Value) (hb : W.heap[g]? = some (.map es c)) (hf : Instr.findNow .string (.string S) es.toList 0 = some (some (i, v))) :
    (Instr.lookup 84 (.map (some g)) (.string S) true).run Try.prog W = .ok (.tuple #[v, .bool true]) W := by
  have hk := Try.underlying9
  have hc : ∀ e, (Instr.checkKey e 10000 9 (.string S)).run Try.prog W = .ok () W := fun e => MapKept.run_checkKey (k := .string S) hk (by simp [MapKept.IsKey]) e 9999
  simp [Instr.lookup, run_underlying ul84, MapKept.run_getObj_map hb, hc, MapKept.run_findKey hk hf, Result.andThen]
theorem look_none (W : World) (g : Nat) (es : Array MapEntry) (c : Nat) (S : ByteArray) (hb : W.heap[g]? = some (.map es c)) (hf : Instr.findNow .string (.string S) es.toList 0 = some none) :
    (Instr.lookup 84 (.map (some g)) (.string S) true).run Try.prog W = .ok (.tuple #[.nilFunc, .bool false]) W := by
  have hk := Try.underlying9
  have hc : ∀ e, (Instr.checkKey e 10000 9 (.string S)).run Try.prog W = .ok () W := fun e => MapKept.run_checkKey (k := .string S) hk (by simp [MapKept.IsKey]) e 9999
  have hz : (zeroValue 80).run Try.prog W = .ok .nilFunc W := by kernel_rfl
  simp [Instr.lookup, run_underlying ul84, MapKept.run_getObj_map hb, hc, MapKept.run_findKey hk hf, Result.andThen, hz]
theorem wpList_insert {ops : Array Oper} {rest : List Oper} {o : Oper} {a : Act} {w : World} {Q : Exit → Act → World → Prop} (hgd : o.guard = none) (m k x : Operand) (ho : o.op = .insert 84 m k x) {g c : Nat} {es : Array MapEntry} {S : ByteArray} {v : Value}
    (hm : a.eval m = .map (some g)) (hk : a.eval k = .string S) (hv : a.eval x = v) (hg : g = w.heap.size) (hf : Instr.findNow .string (.string S) es.toList 0 = some none)
    (h : wpList Try.prog ops Q rest (a.put o.dst undef) (w.alloc (.map (es.push ⟨.string S, v, c⟩) (c + 1)))) : wpList Try.prog ops Q (o :: rest) a (w.alloc (.map es c)) := by
  subst hg
  refine wpList_plain hgd fun K hK => ?_
  unfold Oper.wp execOp
  simp only [ho, hm, hk, hv, Sem.run_bind, ins_run w es c S v hf, Result.andThen_ok, Sem.run_pure, Oper.upon]
  exact hK _ _ h

theorem wpList_build83 {ops : Array Oper} {rest : List Oper} {o : Oper} {a : Act} {w : World} {Q : Exit → Act → World → Prop} (hgd : o.guard = none) (x : Operand) (ho : o.op = .build 83 #[(0, x)]) {v : Value} {R : List Value} (hR : OkR R) (hx : a.eval x = .agg (stA v R))
    (h : wpList Try.prog ops Q rest (a.put o.dst (.agg (stA v R))) w) : wpList Try.prog ops Q (o :: rest) a w := by
  refine wpList_plain hgd fun K hK => ?_
  unfold Oper.wp execOp
  have hb := build83 hR v w
  simp only [ho, List.map_toArray, List.map_cons, List.map_nil, hx, Sem.run_bind, hb, Result.andThen_ok, Sem.run_pure]
  exact hK _ _ h
theorem sb (a b : ByteArray) (h : a ≠ b) : Instr.sameNow .string (.string a) (.string b) = some false := by
  have hb : (a == b) = false := by
    cases hc : a == b
    · rfl
    · exact absurd ((MapKept.bytes_beq a b).1 hc) h
  simp [Instr.sameNow, hb]

def es11 : Array MapEntry := #[⟨.string ⟨#[112, 111, 112]⟩, .func (.func 27) #[] #[], 0⟩, ⟨.string ⟨#[101, 120, 99, 104]⟩, .func (.func 28) #[] #[], 1⟩, ⟨.string ⟨#[100, 117, 112]⟩, .func (.func 29) #[] #[], 2⟩, ⟨.string ⟨#[99, 111, 112, 121]⟩, .func (.func 30) #[] #[], 3⟩, ⟨.string ⟨#[105, 110, 100, 101, 120]⟩, .func (.func 31) #[] #[], 4⟩, ⟨.string ⟨#[114, 111, 108, 108]⟩, .func (.func 32) #[] #[], 5⟩, ⟨.string ⟨#[99, 108, 101, 97, 114]⟩, .func (.func 33) #[] #[], 6⟩, ⟨.string ⟨#[99, 111, 117, 110, 116]⟩, .func (.func 34) #[] #[], 7⟩, ⟨.string ⟨#[109, 97, 114, 107]⟩, .func (.func 35) #[] #[], 8⟩, ⟨.string ⟨#[99, 108, 101, 97, 114, 116, 111, 109, 97, 114, 107]⟩, .func (.func 36) #[] #[], 9⟩, ⟨.string ⟨#[99, 111, 117, 110, 116, 116, 111, 109, 97, 114, 107]⟩, .func (.func 37) #[] #[], 10⟩]
open Classical in
noncomputable def doR (S : ByteArray) (L : List Ob) : Int × List Ob := if S = ⟨#[112, 111, 112]⟩ then popR L else if S = ⟨#[101, 120, 99, 104]⟩ then exchR L else if S = ⟨#[100, 117, 112]⟩ then dupR L else if S = ⟨#[99, 111, 112, 121]⟩ then copyR L else if S = ⟨#[105, 110, 100, 101, 120]⟩ then indexR L else if S = ⟨#[114, 111, 108, 108]⟩ then rollR L else if S = ⟨#[99, 108, 101, 97, 114]⟩ then clearR L else if S = ⟨#[99, 111, 117, 110, 116]⟩ then countR L else if S = ⟨#[109, 97, 114, 107]⟩ then markR L else if S = ⟨#[99, 108, 101, 97, 114, 116, 111, 109, 97, 114, 107]⟩ then ctmR L else if S = ⟨#[99, 111, 117, 110, 116, 116, 111, 109, 97, 114, 107]⟩ then cttR L else (24, L)
theorem do_at {A : Nat → Prop} {x : Option Addr} {len cap : Nat} {R : List Value} {L : List Ob} (S : ByteArray) (f j : Nat) (r : List Ob → Int × List Ob) (hf : Instr.findNow .string (.string S) es11.toList 0 = some (some (j, .func (.func f) #[] #[]))) (hop : OpC f r) (hcf : ∀ (xs : Array Value) (w : World), (callFunc f xs).run Try.prog w = .ok (.enter f xs) w) (w : World) (h : SL A w x len cap L) (hR : OkR R) :
    Calls Try.prog 13 #[.agg (stA (.slice x len cap) R), .string S] w fun e w' => (∃ z n cap', e = .returned (.tuple #[.agg (stA (.slice z n cap') R), .int .i64 (r L).1]) ∧ SL (Out A w.heap.size w.heap.size) w' z n cap' (r L).2) ∧ Below w.heap.size w w'  := by
  have hz := zeroS
  have hmm := @run_makeMap Try.prog
  go_enter Try.func13, Try.ntmps13
  go_upto_region 2 with (first | ((with_reducible refine rw_list ?_); (with_reducible apply wpList_insert); (case hgd => with_reducible rfl); (case ho => with_reducible rfl); (case hm => rfl); (case hk => rfl); (case hv => rfl); (case hg => first | rfl | (simp; done) | (simp; omega)); (case hf => kernel_rfl)) | (first | ((with_reducible refine rw_list ?_); (with_reducible apply wpList_append_eq); (case ho => with_reducible rfl); (case hgd => with_reducible rfl); (case hs => first | exact ev_const | exact ev_tmp rfl); (case hx => first | exact ev_const | exact ev_tmp rfl); (case hr => exact hap _)) | ((with_reducible refine rw_list ?_); (first | ((with_reducible apply wpList_load_cell); (case ho => with_reducible rfl); (case hgd => with_reducible rfl); (case hx => rfl); (case hu => first | exact Try.underlying22 | exact Try.underlying3 | exact Try.underlying55 | exact Try.underlying9 | exact Try.underlying4); (case hd => rfl)) | ((with_reducible apply wpList_load_row); (case ho => with_reducible rfl); (case hgd => with_reducible rfl); (case hx => rfl); (case hu => first | exact Try.underlying49 | exact Try.underlying83 | exact Try.underlying43); (case hd => rfl)) | ((with_reducible apply wpList_store_row); (case ho => with_reducible rfl); (case hgd => with_reducible rfl); (case hx => rfl); (case hy => rfl)) | ((with_reducible apply wpList_store_cell); (case ho => with_reducible rfl); (case hgd => with_reducible rfl); (case hx => rfl); (case hy => first | exact ev_const | exact ev_tmp rfl); (case h1 => rfl))); (case hg => exact (by with_reducible repeat (first | assumption | (refine rw_new ?e_; case e_ => first | rfl | (simp; done) | (simp; omega)) | apply rw_self | (apply rw_other; case hn => first | omega | (simp; omega)) | apply rw_alloc | apply rw_drew | apply rw_drewN))); (try case hv => first | exact stA_get _ _ | exact hcur0 | rfl); (try case hi => first | exact hR.i49 _ | exact hR.i83 _ | kernel_rfl); (try case hold => first | exact hR.z _ _ | exact hR.sz _ _ | rfl); (try case h1 => first | exact hR.all _ rfl | kernel_rfl); (try case hlt => first | exact stA_lt _ _ | rfl); (try case hcs => first | exact stA_set _ _ _ | ((try simp only [List.setIfInBounds_toArray, List.set_cons_succ, List.set_cons_zero]); rfl)))))
  generalize hwy_ : World.alloc _ _ = wy
  have hB_wy : Below w.heap.size w wy := bw_eq hwy_ (by with_reducible repeat (first | exact Below.refl _ _ | assumption | ((first | refine Below.alloc ?_ ?b_ _ | refine bw_set ?_ ?b_ | refine Below.setCell ?_ ?b_ _); case b_ => first | omega | (simp; done) | (simp; omega)) | refine Below.drew ?_ | refine below_drewN ?_ _))
  have hp := rw_eq (k := w.heap.size) hwy_ (by with_reducible repeat (first | assumption | (refine rw_new ?e_; case e_ => first | rfl | (simp; done) | (simp; omega)) | apply rw_self | (apply rw_other; case hn => first | omega | (simp; omega)) | apply rw_alloc | apply rw_drew | apply rw_drewN))
  have hq := rw_eq (k := w.heap.size + 1) hwy_ (by with_reducible repeat (first | assumption | (refine rw_new ?e_; case e_ => first | rfl | (simp; done) | (simp; omega)) | apply rw_self | (apply rw_other; case hn => first | omega | (simp; omega)) | apply rw_alloc | apply rw_drew | apply rw_drewN))
  have hmap : wy.heap[w.heap.size + 2]? = some (.map es11 11) := rw_eq hwy_ (rw_new (by simp))
  clear hwy_ hmm
  have hsy := hB_wy.size
  have hlk := look_run wy (w.heap.size + 2) es11 11 S j _ hmap hf
  go_wp2_with (first | ((with_reducible refine rw_list ?_); (with_reducible apply wpList_build83); (case hgd => with_reducible rfl); (case ho => with_reducible rfl); (case hR => exact hR); (case hx => rfl)) | (first | ((with_reducible refine rw_list ?_); (with_reducible apply wpList_append_eq); (case ho => with_reducible rfl); (case hgd => with_reducible rfl); (case hs => first | exact ev_const | exact ev_tmp rfl); (case hx => first | exact ev_const | exact ev_tmp rfl); (case hr => exact hap _)) | ((with_reducible refine rw_list ?_); (first | ((with_reducible apply wpList_load_cell); (case ho => with_reducible rfl); (case hgd => with_reducible rfl); (case hx => rfl); (case hu => first | exact Try.underlying22 | exact Try.underlying3 | exact Try.underlying55 | exact Try.underlying9 | exact Try.underlying4); (case hd => rfl)) | ((with_reducible apply wpList_load_row); (case ho => with_reducible rfl); (case hgd => with_reducible rfl); (case hx => rfl); (case hu => first | exact Try.underlying49 | exact Try.underlying83 | exact Try.underlying43); (case hd => rfl)) | ((with_reducible apply wpList_store_row); (case ho => with_reducible rfl); (case hgd => with_reducible rfl); (case hx => rfl); (case hy => rfl)) | ((with_reducible apply wpList_store_cell); (case ho => with_reducible rfl); (case hgd => with_reducible rfl); (case hx => rfl); (case hy => first | exact ev_const | exact ev_tmp rfl); (case h1 => rfl))); (case hg => exact (by with_reducible repeat (first | assumption | (refine rw_new ?e_; case e_ => first | rfl | (simp; done) | (simp; omega)) | apply rw_self | (apply rw_other; case hn => first | omega | (simp; omega)) | apply rw_alloc | apply rw_drew | apply rw_drewN))); (try case hv => first | exact stA_get _ _ | exact hcur0 | rfl); (try case hi => first | exact hR.i49 _ | exact hR.i83 _ | kernel_rfl); (try case hold => first | exact hR.z _ _ | exact hR.sz _ _ | rfl); (try case h1 => first | exact hR.all _ rfl | kernel_rfl); (try case hlt => first | exact stA_lt _ _ | rfl); (try case hcs => first | exact stA_set _ _ _ | ((try simp only [List.setIfInBounds_toArray, List.set_cons_succ, List.set_cons_zero]); rfl)))))
  refine (hop _ _ _ _ _ _ _ ((h.out (w.heap.size + 3)).below (B := w.heap.size) (by with_reducible repeat (first | exact Below.refl _ _ | assumption | ((first | refine Below.alloc ?_ ?b_ _ | refine bw_set ?_ ?b_ | refine Below.setCell ?_ ?b_ _); case b_ => first | omega | (simp; done) | (simp; omega)) | refine Below.drew ?_ | refine below_drewN ?_ _)) (Nat.le_refl _)) hR).mono ?_
  rintro e w1 ⟨⟨z, n1, cap1, rfl, hS⟩, hB1⟩
  have hb := hB1
  clear hB1
  have hs_w1 := hb.size
  (try simp at hs_w1)
  have hB_w1 : Below w.heap.size w w1 := below_then (w := w) (by with_reducible repeat (first | exact Below.refl _ _ | assumption | ((first | refine Below.alloc ?_ ?b_ _ | refine bw_set ?_ ?b_ | refine Below.setCell ?_ ?b_ _); case b_ => first | omega | (simp; done) | (simp; omega)) | refine Below.drew ?_ | refine below_drewN ?_ _)) (by first | omega | (simp; done) | (simp; omega) | (have hq_ := hb.size; omega)) hb
  have hx_ := rw_below (k := w.heap.size) hb (by with_reducible repeat (first | assumption | (refine rw_new ?e_; case e_ => first | rfl | (simp; done) | (simp; omega)) | apply rw_self | (apply rw_other; case hn => first | omega | (simp; omega)) | apply rw_alloc | apply rw_drew | apply rw_drewN))
  (try clear hp)
  have hp := hx_
  clear hx_
  have hx_ := rw_below (k := w.heap.size + 1) hb (by with_reducible repeat (first | assumption | (refine rw_new ?e_; case e_ => first | rfl | (simp; done) | (simp; omega)) | apply rw_self | (apply rw_other; case hn => first | omega | (simp; omega)) | apply rw_alloc | apply rw_drew | apply rw_drewN))
  (try clear hq)
  have hq := hx_
  clear hx_
  clear hb
  have hS := hS.inn (by have := rw_lt hmap; first | omega | (simp; omega))
  go_wp2_with (first | ((with_reducible refine rw_list ?_); (with_reducible apply wpList_append_eq); (case ho => with_reducible rfl); (case hgd => with_reducible rfl); (case hs => first | exact ev_const | exact ev_tmp rfl); (case hx => first | exact ev_const | exact ev_tmp rfl); (case hr => exact hap _)) | ((with_reducible refine rw_list ?_); (first | ((with_reducible apply wpList_load_cell); (case ho => with_reducible rfl); (case hgd => with_reducible rfl); (case hx => rfl); (case hu => first | exact Try.underlying22 | exact Try.underlying3 | exact Try.underlying55 | exact Try.underlying9 | exact Try.underlying4); (case hd => rfl)) | ((with_reducible apply wpList_load_row); (case ho => with_reducible rfl); (case hgd => with_reducible rfl); (case hx => rfl); (case hu => first | exact Try.underlying49 | exact Try.underlying83 | exact Try.underlying43); (case hd => rfl)) | ((with_reducible apply wpList_store_row); (case ho => with_reducible rfl); (case hgd => with_reducible rfl); (case hx => rfl); (case hy => rfl)) | ((with_reducible apply wpList_store_cell); (case ho => with_reducible rfl); (case hgd => with_reducible rfl); (case hx => rfl); (case hy => first | exact ev_const | exact ev_tmp rfl); (case h1 => rfl))); (case hg => exact (by with_reducible repeat (first | assumption | (refine rw_new ?e_; case e_ => first | rfl | (simp; done) | (simp; omega)) | apply rw_self | (apply rw_other; case hn => first | omega | (simp; omega)) | apply rw_alloc | apply rw_drew | apply rw_drewN))); (try case hv => first | exact stA_get _ _ | exact hcur0 | rfl); (try case hi => first | exact hR.i49 _ | exact hR.i83 _ | kernel_rfl); (try case hold => first | exact hR.z _ _ | exact hR.sz _ _ | rfl); (try case h1 => first | exact hR.all _ rfl | kernel_rfl); (try case hlt => first | exact stA_lt _ _ | rfl); (try case hcs => first | exact stA_set _ _ _ | ((try simp only [List.setIfInBounds_toArray, List.set_cons_succ, List.set_cons_zero]); rfl))))
  refine bodyPost_ret (v := _) (results_cell_tmp Try.results13 _ _ _ _ _ _ _ (by rfl) (by with_reducible repeat (first | assumption | (refine rw_new ?e_; case e_ => first | rfl | (simp; done) | (simp; omega)) | apply rw_self | (apply rw_other; case hn => first | omega | (simp; omega)) | apply rw_alloc | apply rw_drew | apply rw_drewN)) Try.underlying49 rfl (by exact hR.i49 _)) rfl ⟨⟨_, _, _, rfl, ?_⟩, (by with_reducible repeat (first | exact Below.refl _ _ | assumption | ((first | refine Below.alloc ?_ ?b_ _ | refine bw_set ?_ ?b_ | refine Below.setCell ?_ ?b_ _); case b_ => first | omega | (simp; done) | (simp; omega)) | refine Below.drew ?_ | refine below_drewN ?_ _))⟩
  exact (SL.fin (hS.keep (by first | omega | (simp; done) | (simp; omega)) (fun b hA hlt => by have hA := out_or hA; (try simp at hA); (with_reducible repeat (first | rfl | (refine (setRow_other _ _ _ _ ?n_).trans ?_; case n_ => first | omega | (simp; omega)) | (refine (Below.heap_alloc _ _ _ ?n_).trans ?_; case n_ => first | omega | (simp; omega)))))) (by first | omega | (simp; done) | (simp; omega)))
theorem do_none {A : Nat → Prop} {x : Option Addr} {len cap : Nat} {R : List Value} {L : List Ob} (S : ByteArray) (hf : Instr.findNow .string (.string S) es11.toList 0 = some none) (w : World) (h : SL A w x len cap L) (hR : OkR R) :
    Calls Try.prog 13 #[.agg (stA (.slice x len cap) R), .string S] w fun e w' => (∃ z n cap', e = .returned (.tuple #[.agg (stA (.slice z n cap') R), .int .i64 (((24, L) : Int × List Ob)).1]) ∧ SL (Out A w.heap.size w.heap.size) w' z n cap' (((24, L) : Int × List Ob)).2) ∧ Below w.heap.size w w'  := by
  have hz := zeroS
  have hmm := @run_makeMap Try.prog
  go_enter Try.func13, Try.ntmps13
  go_upto_region 2 with (first | ((with_reducible refine rw_list ?_); (with_reducible apply wpList_insert); (case hgd => with_reducible rfl); (case ho => with_reducible rfl); (case hm => rfl); (case hk => rfl); (case hv => rfl); (case hg => first | rfl | (simp; done) | (simp; omega)); (case hf => kernel_rfl)) | (first | ((with_reducible refine rw_list ?_); (with_reducible apply wpList_append_eq); (case ho => with_reducible rfl); (case hgd => with_reducible rfl); (case hs => first | exact ev_const | exact ev_tmp rfl); (case hx => first | exact ev_const | exact ev_tmp rfl); (case hr => exact hap _)) | ((with_reducible refine rw_list ?_); (first | ((with_reducible apply wpList_load_cell); (case ho => with_reducible rfl); (case hgd => with_reducible rfl); (case hx => rfl); (case hu => first | exact Try.underlying22 | exact Try.underlying3 | exact Try.underlying55 | exact Try.underlying9 | exact Try.underlying4); (case hd => rfl)) | ((with_reducible apply wpList_load_row); (case ho => with_reducible rfl); (case hgd => with_reducible rfl); (case hx => rfl); (case hu => first | exact Try.underlying49 | exact Try.underlying83 | exact Try.underlying43); (case hd => rfl)) | ((with_reducible apply wpList_store_row); (case ho => with_reducible rfl); (case hgd => with_reducible rfl); (case hx => rfl); (case hy => rfl)) | ((with_reducible apply wpList_store_cell); (case ho => with_reducible rfl); (case hgd => with_reducible rfl); (case hx => rfl); (case hy => first | exact ev_const | exact ev_tmp rfl); (case h1 => rfl))); (case hg => exact (by with_reducible repeat (first | assumption | (refine rw_new ?e_; case e_ => first | rfl | (simp; done) | (simp; omega)) | apply rw_self | (apply rw_other; case hn => first | omega | (simp; omega)) | apply rw_alloc | apply rw_drew | apply rw_drewN))); (try case hv => first | exact stA_get _ _ | exact hcur0 | rfl); (try case hi => first | exact hR.i49 _ | exact hR.i83 _ | kernel_rfl); (try case hold => first | exact hR.z _ _ | exact hR.sz _ _ | rfl); (try case h1 => first | exact hR.all _ rfl | kernel_rfl); (try case hlt => first | exact stA_lt _ _ | rfl); (try case hcs => first | exact stA_set _ _ _ | ((try simp only [List.setIfInBounds_toArray, List.set_cons_succ, List.set_cons_zero]); rfl)))))
  generalize hwy_ : World.alloc _ _ = wy
  have hB_wy : Below w.heap.size w wy := bw_eq hwy_ (by with_reducible repeat (first | exact Below.refl _ _ | assumption | ((first | refine Below.alloc ?_ ?b_ _ | refine bw_set ?_ ?b_ | refine Below.setCell ?_ ?b_ _); case b_ => first | omega | (simp; done) | (simp; omega)) | refine Below.drew ?_ | refine below_drewN ?_ _))
  have hp := rw_eq (k := w.heap.size) hwy_ (by with_reducible repeat (first | assumption | (refine rw_new ?e_; case e_ => first | rfl | (simp; done) | (simp; omega)) | apply rw_self | (apply rw_other; case hn => first | omega | (simp; omega)) | apply rw_alloc | apply rw_drew | apply rw_drewN))
  have hq := rw_eq (k := w.heap.size + 1) hwy_ (by with_reducible repeat (first | assumption | (refine rw_new ?e_; case e_ => first | rfl | (simp; done) | (simp; omega)) | apply rw_self | (apply rw_other; case hn => first | omega | (simp; omega)) | apply rw_alloc | apply rw_drew | apply rw_drewN))
  have hmap : wy.heap[w.heap.size + 2]? = some (.map es11 11) := rw_eq hwy_ (rw_new (by simp))
  clear hwy_ hmm
  have hsy := hB_wy.size
  have hlk := look_none wy (w.heap.size + 2) es11 11 S hmap hf
  go_wp2_with (first | ((with_reducible refine rw_list ?_); (with_reducible apply wpList_build83); (case hgd => with_reducible rfl); (case ho => with_reducible rfl); (case hR => exact hR); (case hx => rfl)) | (first | ((with_reducible refine rw_list ?_); (with_reducible apply wpList_append_eq); (case ho => with_reducible rfl); (case hgd => with_reducible rfl); (case hs => first | exact ev_const | exact ev_tmp rfl); (case hx => first | exact ev_const | exact ev_tmp rfl); (case hr => exact hap _)) | ((with_reducible refine rw_list ?_); (first | ((with_reducible apply wpList_load_cell); (case ho => with_reducible rfl); (case hgd => with_reducible rfl); (case hx => rfl); (case hu => first | exact Try.underlying22 | exact Try.underlying3 | exact Try.underlying55 | exact Try.underlying9 | exact Try.underlying4); (case hd => rfl)) | ((with_reducible apply wpList_load_row); (case ho => with_reducible rfl); (case hgd => with_reducible rfl); (case hx => rfl); (case hu => first | exact Try.underlying49 | exact Try.underlying83 | exact Try.underlying43); (case hd => rfl)) | ((with_reducible apply wpList_store_row); (case ho => with_reducible rfl); (case hgd => with_reducible rfl); (case hx => rfl); (case hy => rfl)) | ((with_reducible apply wpList_store_cell); (case ho => with_reducible rfl); (case hgd => with_reducible rfl); (case hx => rfl); (case hy => first | exact ev_const | exact ev_tmp rfl); (case h1 => rfl))); (case hg => exact (by with_reducible repeat (first | assumption | (refine rw_new ?e_; case e_ => first | rfl | (simp; done) | (simp; omega)) | apply rw_self | (apply rw_other; case hn => first | omega | (simp; omega)) | apply rw_alloc | apply rw_drew | apply rw_drewN))); (try case hv => first | exact stA_get _ _ | exact hcur0 | rfl); (try case hi => first | exact hR.i49 _ | exact hR.i83 _ | kernel_rfl); (try case hold => first | exact hR.z _ _ | exact hR.sz _ _ | rfl); (try case h1 => first | exact hR.all _ rfl | kernel_rfl); (try case hlt => first | exact stA_lt _ _ | rfl); (try case hcs => first | exact stA_set _ _ _ | ((try simp only [List.setIfInBounds_toArray, List.set_cons_succ, List.set_cons_zero]); rfl)))))
  refine bodyPost_ret (v := _) (results_cell_tmp Try.results13 _ _ _ _ _ _ _ (by rfl) (by with_reducible repeat (first | assumption | (refine rw_new ?e_; case e_ => first | rfl | (simp; done) | (simp; omega)) | apply rw_self | (apply rw_other; case hn => first | omega | (simp; omega)) | apply rw_alloc | apply rw_drew | apply rw_drewN)) Try.underlying49 rfl (by exact hR.i49 _)) rfl ⟨⟨_, _, _, rfl, ?_⟩, (by with_reducible repeat (first | exact Below.refl _ _ | assumption | ((first | refine Below.alloc ?_ ?b_ _ | refine bw_set ?_ ?b_ | refine Below.setCell ?_ ?b_ _); case b_ => first | omega | (simp; done) | (simp; omega)) | refine Below.drew ?_ | refine below_drewN ?_ _))⟩
  exact (h.out w.heap.size).below (B := w.heap.size) (by with_reducible repeat (first | exact Below.refl _ _ | assumption | ((first | refine Below.alloc ?_ ?b_ _ | refine bw_set ?_ ?b_ | refine Below.setCell ?_ ?b_ _); case b_ => first | omega | (simp; done) | (simp; omega)) | refine Below.drew ?_ | refine below_drewN ?_ _)) (Nat.le_refl _)
theorem do_any {A : Nat → Prop} {x : Option Addr} {len cap : Nat} {R : List Value} {L : List Ob} (S : ByteArray) (w : World) (h : SL A w x len cap L) (hR : OkR R) :
    Calls Try.prog 13 #[.agg (stA (.slice x len cap) R), .string S] w fun e w' => (∃ z n cap', e = .returned (.tuple #[.agg (stA (.slice z n cap') R), .int .i64 (doR S L).1]) ∧ SL (Out A w.heap.size w.heap.size) w' z n cap' (doR S L).2) ∧ Below w.heap.size w w'  := by
  unfold doR
  by_cases h0 : S = ⟨#[112, 111, 112]⟩
  · rw [if_pos h0]
    subst h0
    exact do_at _ _ 0 popR (by kernel_rfl) op_pop (fun _ _ => by rfl) w h hR
  rw [if_neg h0]
  by_cases h1 : S = ⟨#[101, 120, 99, 104]⟩
  · rw [if_pos h1]
    subst h1
    exact do_at _ _ 1 exchR (by kernel_rfl) op_exch (fun _ _ => by rfl) w h hR
  rw [if_neg h1]
  by_cases h2 : S = ⟨#[100, 117, 112]⟩
  · rw [if_pos h2]
    subst h2
    exact do_at _ _ 2 dupR (by kernel_rfl) op_dup (fun _ _ => by rfl) w h hR
  rw [if_neg h2]
  by_cases h3 : S = ⟨#[99, 111, 112, 121]⟩
  · rw [if_pos h3]
    subst h3
    exact do_at _ _ 3 copyR (by kernel_rfl) op_copy (fun _ _ => by rfl) w h hR
  rw [if_neg h3]
  by_cases h4 : S = ⟨#[105, 110, 100, 101, 120]⟩
  · rw [if_pos h4]
    subst h4
    exact do_at _ _ 4 indexR (by kernel_rfl) op_index (fun _ _ => by rfl) w h hR
  rw [if_neg h4]
  by_cases h5 : S = ⟨#[114, 111, 108, 108]⟩
  · rw [if_pos h5]
    subst h5
    exact do_at _ _ 5 rollR (by kernel_rfl) op_roll (fun _ _ => by rfl) w h hR
  rw [if_neg h5]
  by_cases h6 : S = ⟨#[99, 108, 101, 97, 114]⟩
  · rw [if_pos h6]
    subst h6
    exact do_at _ _ 6 clearR (by kernel_rfl) op_clear (fun _ _ => by rfl) w h hR
  rw [if_neg h6]
  by_cases h7 : S = ⟨#[99, 111, 117, 110, 116]⟩
  · rw [if_pos h7]
    subst h7
    exact do_at _ _ 7 countR (by kernel_rfl) op_count (fun _ _ => by rfl) w h hR
  rw [if_neg h7]
  by_cases h8 : S = ⟨#[109, 97, 114, 107]⟩
  · rw [if_pos h8]
    subst h8
    exact do_at _ _ 8 markR (by kernel_rfl) op_mark (fun _ _ => by rfl) w h hR
  rw [if_neg h8]
  by_cases h9 : S = ⟨#[99, 108, 101, 97, 114, 116, 111, 109, 97, 114, 107]⟩
  · rw [if_pos h9]
    subst h9
    exact do_at _ _ 9 ctmR (by kernel_rfl) op_ctm (fun _ _ => by rfl) w h hR
  rw [if_neg h9]
  by_cases h10 : S = ⟨#[99, 111, 117, 110, 116, 116, 111, 109, 97, 114, 107]⟩
  · rw [if_pos h10]
    subst h10
    exact do_at _ _ 10 cttR (by kernel_rfl) op_ctt (fun _ _ => by rfl) w h hR
  rw [if_neg h10]
  exact do_none S (by simp only [es11, Instr.findNow, sb _ _ h0, sb _ _ h1, sb _ _ h2, sb _ _ h3, sb _ _ h4, sb _ _ h5, sb _ _ h6, sb _ _ h7, sb _ _ h8, sb _ _ h9, sb _ _ h10]) w h hR
end Go.Proofs.Ytiadenokcpnliaa.T3
