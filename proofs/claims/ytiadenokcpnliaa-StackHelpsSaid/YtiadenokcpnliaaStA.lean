/- chapter 12: objects, and states as values; Top and Drop of the stack. -/
import Derived.Test.YtiadenokcpnliaaRd
import Derived.Test.YtiadenokcpnliaaRow
import Derived.WalkKit
import Derived.Lib.Hide
import Derived.Deep.QuietTactic
import Derived.BigQuiet
import Derived.Lib.QuietBelow
import Derived.Deep.RegionHeld3
import Derived.WalkLawsBesides
import Derived.WalkSpells
import Derived.Outline
import Derived.Deep.DeepFit
import Derived.Maps.AppendAt
import Derived.Deep.AppendLies
import Derived.Deep.CutRange
import Derived.OpenShut
namespace Go.Proofs.Ytiadenokcpnliaa.T3
set_option linter.unusedSimpArgs false
set_option linter.unusedVariables false
open Go.RowKit
set_option maxHeartbeats 4000000
set_option maxRecDepth 100000
/-- an object of the language -/
structure Ob where
  k : Int
  e : Bool
  n : Int
  s : ByteArray
  r : Int
  o : Int
  l : Int
def Ob.cs (x : Ob) : List Value := [.int .i64 x.k, .bool x.e, .int .i64 x.n, .string x.s, .int .i64 x.r, .int .i64 x.o, .int .i64 x.l]
theorem Ob.cs_len (x : Ob) : x.cs.length = 7 := rfl
/-- a row of objects, in a block that A allows -/
def Obs (A : Nat → Prop) (w : World) (x : Option Addr) (L : List Ob) : Prop :=
  L = [] ∨ ∃ b off, x = some ⟨b, off, none⟩ ∧ A b ∧ b < w.heap.size ∧ ∀ i es, (L.map Ob.cs)[i]? = some es → ∀ j u, es[j]? = some u → w.cell? ⟨b, off + i * 7 + j, none⟩ = some u
theorem Obs.keep {A : Nat → Prop} {w w' : World} {x : Option Addr} {L : List Ob} (h : Obs A w x L) (hs : w.heap.size ≤ w'.heap.size) (hb : ∀ b, A b → b < w.heap.size → w'.heap[b]? = w.heap[b]?) : Obs A w' x L := by
  rcases h with h | ⟨b, o, h1, hA, h2, h3⟩
  · exact .inl h
  · refine .inr ⟨b, o, h1, hA, by omega, fun i es hi j u hj => ?_⟩
    rw [← h3 i es hi j u hj]
    simp [World.cell?, hb b hA h2]
theorem Obs.below {A : Nat → Prop} {w w' : World} {B : Nat} {x : Option Addr} {L : List Ob} (h : Obs A w x L) (hb : Below B w w') (hB : w.heap.size ≤ B) : Obs A w' x L := h.keep hb.size (fun b _ hlt => hb.block b (by omega))
theorem Obs.mono {A A' : Nat → Prop} {w : World} {x : Option Addr} {L : List Ob} (h : Obs A w x L) (hA : ∀ b, b < w.heap.size → A b → A' b) : Obs A' w x L := by
  rcases h with h | ⟨b, o, h1, h0, h2, h3⟩
  · exact .inl h
  · exact .inr ⟨b, o, h1, hA b h2 h0, h2, h3⟩
theorem Obs.nil (A : Nat → Prop) (w : World) (x : Option Addr) : Obs A w x [] := .inl rfl
theorem Obs.of_els {w : World} {x : Option Addr} {L : List Ob} (h : Els w x 7 (L.map Ob.cs)) : Obs (fun _ => True) w x L := by
  rcases h with h | ⟨b, o, h1, h2, h3⟩
  · exact .inl (List.map_eq_nil_iff.1 h)
  · exact .inr ⟨b, o, h1, trivial, h2, h3⟩
/-- the cells of a state: the operands' slice, and the rest -/
def stA (v : Value) (R : List Value) : Array Value := (v :: R).toArray
structure OkR (R : List Value) : Prop where
  len : R.length = 66
  one : ∀ u ∈ R, u.oneCell' = true
theorem stA_get (v : Value) (R : List Value) : (stA v R)[0]? = some v := by simp [stA]
theorem stA_set (v u : Value) (R : List Value) : (stA v R).setIfInBounds 0 u = stA u R := by simp [stA]
theorem stA_lt (v : Value) (R : List Value) : decide (0 < (stA v R).size) = true := by simp [stA]
theorem stA_size (v : Value) (R : List Value) : (stA v R).size = R.length + 1 := by simp [stA]
/-- the rest of the empty state -/
noncomputable def R0 : List Value := match (Try.prog.info? 49).bind (·.zero) with | some (.agg cs) => cs.toList.tail | _ => []
theorem okR0 : OkR R0 := ⟨by kernel_rfl, by
  have h : R0.all (·.oneCell') = true := by kernel_rfl
  simpa using h⟩
theorem zeroS (w : World) : Sem.run Try.prog (zeroValue 49) w = .ok (.agg (stA (.slice none 0 0) R0)) w := by kernel_rfl
theorem OkR.sz {R : List Value} (h : OkR R) (v u : Value) : (stA v R).size = (stA u R).size := by rw [stA_size, stA_size]
theorem OkR.i49 {R : List Value} (h : OkR R) (v : Value) : (Try.prog.info? 49).map (·.size) = some (stA v R).size := by
  rw [stA_size, h.len]
  kernel_rfl
theorem OkR.i83 {R : List Value} (h : OkR R) (v : Value) : (Try.prog.info? 83).map (·.size) = some (stA v R).size := by
  rw [stA_size, h.len]
  kernel_rfl
theorem OkR.all {R : List Value} (h : OkR R) (v : Value) (hv : v.oneCell' = true) : (stA v R).all (·.oneCell') = true := by
  rw [Array.all_eq_true']
  intro u hu
  unfold stA at hu
  rcases List.mem_cons.1 (by simpa using hu) with rfl | h1
  · exact hv
  · exact h.one u h1
theorem OkR.z {R : List Value} (h : OkR R) (v u : Value) : (stA v R0).size = (stA u R).size := by rw [stA_size, stA_size, h.len, okR0.len]
/-- where the highest m operands begin -/
def tpA (x : Option Addr) (l m : Nat) : Option Addr := if m = l then x else x.map (·.add (l * 7))
theorem Obs.top {A : Nat → Prop} {w : World} {x : Option Addr} {L : List Ob} (h : Obs A w x L) (k : Nat) : Obs A w (tpA x k L.length) (L.drop k) := by
  rcases h with h | ⟨b, o, rfl, hA, hb, hc⟩
  · left
    simp [h]
  · rcases Nat.lt_or_ge k L.length with hk | hk
    · right
      refine ⟨b, o + k * 7, ?_, hA, hb, fun i es hi j u hj => ?_⟩
      · unfold tpA
        rw [if_neg (by omega)]
        simp only [Option.map_some, Option.some.injEq]
        have := add_add b o (k * 7) 0
        simp [Addr.add]
      · rw [List.map_drop, List.getElem?_drop] at hi
        have := hc (k + i) es hi j u hj
        rwa [show o + k * 7 + i * 7 + j = o + (k + i) * 7 + j by omega]
    · left
      exact List.drop_eq_nil_of_le hk
theorem Obs.take {A : Nat → Prop} {w : World} {x : Option Addr} {L : List Ob} (h : Obs A w x L) (k : Nat) : Obs A w x (L.take k) := by
  rcases h with h | ⟨b, o, rfl, hA, hb, hc⟩
  · left
    simp [h]
  · right
    refine ⟨b, o, rfl, hA, hb, fun i es hi j u hj => hc i es ?_ j u hj⟩
    rw [List.map_take, List.getElem?_take] at hi
    split at hi
    · exact hi
    · cases hi
theorem size7 (w : World) : (sizeOf (Try.prog.elem 22)).run Try.prog w = .ok 7 w := by kernel_rfl
theorem el22 : Try.prog.underlying 22 = some (.slice (Try.prog.elem 22)) := by kernel_rfl
theorem slice_top (w : World) (x : Option Addr) (len cap k : Nat) (hc : len ≤ cap) (hk : k ≤ len) :
    Sem.run Try.prog (Instr.slice 22 (.slice x len cap) (some (.int .i64 (k : Int))) (some (.int .i64 (len : Int))) (some (.int .i64 (len : Int)))) w = .ok (.slice (tpA x k len) (len - k) (len - k)) w := by
  rw [run_slice_lhm w 22 x len cap el22 .i64 .i64 .i64 k len len (by omega) (by omega) (by omega) (by omega), size7]
  simp [Result.andThen, sliced, tpA]
theorem slice_low (w : World) (x : Option Addr) (len cap k : Nat) (hc : len ≤ cap) (hk : k ≤ len) :
    Sem.run Try.prog (Instr.slice 22 (.slice x len cap) none (some (.int .i64 (k : Int))) (some (.int .i64 (k : Int)))) w = .ok (.slice x k k) w := by
  rw [run_slice_hm w 22 x len cap el22 .i64 .i64 k k (by omega) (by omega) (by omega), size7]
  simp [Result.andThen, sliced]
  intro _
  cases x <;> simp [Addr.add]
theorem top_neg {x : Option Addr} {len cap : Nat} {R : List Value} (n : Int) (hn : n < 0) (w : World) (hcap : len ≤ cap) (hmax : cap ≤ 9223372036854775807) (hR : OkR R) :
    Calls Try.prog 23 #[(.agg (stA (.slice x len cap) R)), .int .i64 n] w fun e w' => e = .returned (.tuple #[.slice none 0 0, .int .i64 2]) ∧ Below w.heap.size w w' := by
  go_enter Try.func23, Try.ntmps23
  go_wp2_with (first | ((with_reducible refine rw_list ?_); (with_reducible apply wpList_append_eq); (case ho => with_reducible rfl); (case hgd => with_reducible rfl); (case hs => first | exact ev_const | exact ev_tmp rfl); (case hx => first | exact ev_const | exact ev_tmp rfl); (case hr => exact hap _)) | ((with_reducible refine rw_list ?_); (first | ((with_reducible apply wpList_load_cell); (case ho => with_reducible rfl); (case hgd => with_reducible rfl); (case hx => rfl); (case hu => first | exact Try.underlying22 | exact Try.underlying3 | exact Try.underlying55 | exact Try.underlying9 | exact Try.underlying4); (case hd => rfl)) | ((with_reducible apply wpList_load_row); (case ho => with_reducible rfl); (case hgd => with_reducible rfl); (case hx => rfl); (case hu => first | exact Try.underlying49 | exact Try.underlying83 | exact Try.underlying43); (case hd => rfl)) | ((with_reducible apply wpList_store_row); (case ho => with_reducible rfl); (case hgd => with_reducible rfl); (case hx => rfl); (case hy => rfl)) | ((with_reducible apply wpList_store_cell); (case ho => with_reducible rfl); (case hgd => with_reducible rfl); (case hx => rfl); (case hy => first | exact ev_const | exact ev_tmp rfl); (case h1 => rfl))); (case hg => exact (by with_reducible repeat (first | assumption | (refine rw_new ?e_; case e_ => first | rfl | (simp; done) | (simp; omega)) | apply rw_self | (apply rw_other; case hn => first | omega | (simp; omega)) | apply rw_alloc | apply rw_drew | apply rw_drewN))); (try case hv => first | exact stA_get _ _ | rfl); (try case hi => first | exact hR.i49 _ | exact hR.i83 _ | kernel_rfl); (try case hold => first | exact hR.z _ _ | exact hR.sz _ _ | rfl); (try case h1 => first | exact hR.all _ rfl | kernel_rfl); (try case hlt => first | exact stA_lt _ _ | rfl); (try case hcs => first | exact stA_set _ _ _ | ((try simp only [List.setIfInBounds_toArray, List.set_cons_succ, List.set_cons_zero]); rfl))))
  exact bodyPost_ret (v := .tuple #[.slice none 0 0, .int .i64 2]) (by simp [results, Try.results23, go_sem]) rfl ⟨rfl, (by with_reducible repeat (first | exact Below.refl _ _ | assumption | ((first | refine Below.alloc ?_ ?b_ _ | refine bw_set ?_ ?b_ | refine Below.setCell ?_ ?b_ _); case b_ => first | omega | (simp; done) | (simp; omega)) | refine Below.drew ?_ | refine below_drewN ?_ _))⟩
theorem top_big {x : Option Addr} {len cap : Nat} {R : List Value} (n : Int) (h0 : 0 ≤ n) (hn : len < n) (w : World) (hcap : len ≤ cap) (hmax : cap ≤ 9223372036854775807) (hR : OkR R) :
    Calls Try.prog 23 #[(.agg (stA (.slice x len cap) R)), .int .i64 n] w fun e w' => e = .returned (.tuple #[.slice none 0 0, .int .i64 20]) ∧ Below w.heap.size w w' := by
  go_enter Try.func23, Try.ntmps23
  go_wp2_with (first | ((with_reducible refine rw_list ?_); (with_reducible apply wpList_append_eq); (case ho => with_reducible rfl); (case hgd => with_reducible rfl); (case hs => first | exact ev_const | exact ev_tmp rfl); (case hx => first | exact ev_const | exact ev_tmp rfl); (case hr => exact hap _)) | ((with_reducible refine rw_list ?_); (first | ((with_reducible apply wpList_load_cell); (case ho => with_reducible rfl); (case hgd => with_reducible rfl); (case hx => rfl); (case hu => first | exact Try.underlying22 | exact Try.underlying3 | exact Try.underlying55 | exact Try.underlying9 | exact Try.underlying4); (case hd => rfl)) | ((with_reducible apply wpList_load_row); (case ho => with_reducible rfl); (case hgd => with_reducible rfl); (case hx => rfl); (case hu => first | exact Try.underlying49 | exact Try.underlying83 | exact Try.underlying43); (case hd => rfl)) | ((with_reducible apply wpList_store_row); (case ho => with_reducible rfl); (case hgd => with_reducible rfl); (case hx => rfl); (case hy => rfl)) | ((with_reducible apply wpList_store_cell); (case ho => with_reducible rfl); (case hgd => with_reducible rfl); (case hx => rfl); (case hy => first | exact ev_const | exact ev_tmp rfl); (case h1 => rfl))); (case hg => exact (by with_reducible repeat (first | assumption | (refine rw_new ?e_; case e_ => first | rfl | (simp; done) | (simp; omega)) | apply rw_self | (apply rw_other; case hn => first | omega | (simp; omega)) | apply rw_alloc | apply rw_drew | apply rw_drewN))); (try case hv => first | exact stA_get _ _ | rfl); (try case hi => first | exact hR.i49 _ | exact hR.i83 _ | kernel_rfl); (try case hold => first | exact hR.z _ _ | exact hR.sz _ _ | rfl); (try case h1 => first | exact hR.all _ rfl | kernel_rfl); (try case hlt => first | exact stA_lt _ _ | rfl); (try case hcs => first | exact stA_set _ _ _ | ((try simp only [List.setIfInBounds_toArray, List.set_cons_succ, List.set_cons_zero]); rfl))))
  exact bodyPost_ret (v := .tuple #[.slice none 0 0, .int .i64 20]) (by simp [results, Try.results23, go_sem]) rfl ⟨rfl, (by with_reducible repeat (first | exact Below.refl _ _ | assumption | ((first | refine Below.alloc ?_ ?b_ _ | refine bw_set ?_ ?b_ | refine Below.setCell ?_ ?b_ _); case b_ => first | omega | (simp; done) | (simp; omega)) | refine Below.drew ?_ | refine below_drewN ?_ _))⟩
theorem top_ok {x : Option Addr} {len cap : Nat} {R : List Value} (k m : Nat) (hk : k + m = len) (w : World) (hcap : len ≤ cap) (hmax : cap ≤ 9223372036854775807) (hR : OkR R) :
    Calls Try.prog 23 #[(.agg (stA (.slice x len cap) R)), .int .i64 (m : Int)] w fun e w' => e = .returned (.tuple #[.slice (tpA x k len) m m, .int .i64 0]) ∧ Below w.heap.size w w' := by
  have hs := fun w => slice_top w x len cap k hcap (by omega)
  have e1 : (len : Int) - (m : Int) = k := by omega
  have e2 : len - k = m := by omega
  rw [e2] at hs
  go_enter Try.func23, Try.ntmps23
  go_wp2_with (first | ((with_reducible refine rw_list ?_); (with_reducible apply wpList_append_eq); (case ho => with_reducible rfl); (case hgd => with_reducible rfl); (case hs => first | exact ev_const | exact ev_tmp rfl); (case hx => first | exact ev_const | exact ev_tmp rfl); (case hr => exact hap _)) | ((with_reducible refine rw_list ?_); (first | ((with_reducible apply wpList_load_cell); (case ho => with_reducible rfl); (case hgd => with_reducible rfl); (case hx => rfl); (case hu => first | exact Try.underlying22 | exact Try.underlying3 | exact Try.underlying55 | exact Try.underlying9 | exact Try.underlying4); (case hd => rfl)) | ((with_reducible apply wpList_load_row); (case ho => with_reducible rfl); (case hgd => with_reducible rfl); (case hx => rfl); (case hu => first | exact Try.underlying49 | exact Try.underlying83 | exact Try.underlying43); (case hd => rfl)) | ((with_reducible apply wpList_store_row); (case ho => with_reducible rfl); (case hgd => with_reducible rfl); (case hx => rfl); (case hy => rfl)) | ((with_reducible apply wpList_store_cell); (case ho => with_reducible rfl); (case hgd => with_reducible rfl); (case hx => rfl); (case hy => first | exact ev_const | exact ev_tmp rfl); (case h1 => rfl))); (case hg => exact (by with_reducible repeat (first | assumption | (refine rw_new ?e_; case e_ => first | rfl | (simp; done) | (simp; omega)) | apply rw_self | (apply rw_other; case hn => first | omega | (simp; omega)) | apply rw_alloc | apply rw_drew | apply rw_drewN))); (try case hv => first | exact stA_get _ _ | rfl); (try case hi => first | exact hR.i49 _ | exact hR.i83 _ | kernel_rfl); (try case hold => first | exact hR.z _ _ | exact hR.sz _ _ | rfl); (try case h1 => first | exact hR.all _ rfl | kernel_rfl); (try case hlt => first | exact stA_lt _ _ | rfl); (try case hcs => first | exact stA_set _ _ _ | ((try simp only [List.setIfInBounds_toArray, List.set_cons_succ, List.set_cons_zero]); rfl))))
  exact bodyPost_ret (v := .tuple #[.slice (tpA x k len) m m, .int .i64 0]) (by simp [results, Try.results23, go_sem]) rfl ⟨rfl, (by with_reducible repeat (first | exact Below.refl _ _ | assumption | ((first | refine Below.alloc ?_ ?b_ _ | refine bw_set ?_ ?b_ | refine Below.setCell ?_ ?b_ _); case b_ => first | omega | (simp; done) | (simp; omega)) | refine Below.drew ?_ | refine below_drewN ?_ _))⟩
theorem drop_neg {x : Option Addr} {len cap : Nat} {R : List Value} (n : Int) (hn : n < 0) (w : World) (hcap : len ≤ cap) (hmax : cap ≤ 9223372036854775807) (hR : OkR R) :
    Calls Try.prog 24 #[(.agg (stA (.slice x len cap) R)), .int .i64 n] w fun e w' => e = .returned (.tuple #[.agg (stA (.slice x len cap) R), .int .i64 2]) ∧ Below w.heap.size w w' := by
  have hz := zeroS
  go_enter Try.func24, Try.ntmps24
  go_wp2_with (first | ((with_reducible refine rw_list ?_); (with_reducible apply wpList_append_eq); (case ho => with_reducible rfl); (case hgd => with_reducible rfl); (case hs => first | exact ev_const | exact ev_tmp rfl); (case hx => first | exact ev_const | exact ev_tmp rfl); (case hr => exact hap _)) | ((with_reducible refine rw_list ?_); (first | ((with_reducible apply wpList_load_cell); (case ho => with_reducible rfl); (case hgd => with_reducible rfl); (case hx => rfl); (case hu => first | exact Try.underlying22 | exact Try.underlying3 | exact Try.underlying55 | exact Try.underlying9 | exact Try.underlying4); (case hd => rfl)) | ((with_reducible apply wpList_load_row); (case ho => with_reducible rfl); (case hgd => with_reducible rfl); (case hx => rfl); (case hu => first | exact Try.underlying49 | exact Try.underlying83 | exact Try.underlying43); (case hd => rfl)) | ((with_reducible apply wpList_store_row); (case ho => with_reducible rfl); (case hgd => with_reducible rfl); (case hx => rfl); (case hy => rfl)) | ((with_reducible apply wpList_store_cell); (case ho => with_reducible rfl); (case hgd => with_reducible rfl); (case hx => rfl); (case hy => first | exact ev_const | exact ev_tmp rfl); (case h1 => rfl))); (case hg => exact (by with_reducible repeat (first | assumption | (refine rw_new ?e_; case e_ => first | rfl | (simp; done) | (simp; omega)) | apply rw_self | (apply rw_other; case hn => first | omega | (simp; omega)) | apply rw_alloc | apply rw_drew | apply rw_drewN))); (try case hv => first | exact stA_get _ _ | rfl); (try case hi => first | exact hR.i49 _ | exact hR.i83 _ | kernel_rfl); (try case hold => first | exact hR.z _ _ | exact hR.sz _ _ | rfl); (try case h1 => first | exact hR.all _ rfl | kernel_rfl); (try case hlt => first | exact stA_lt _ _ | rfl); (try case hcs => first | exact stA_set _ _ _ | ((try simp only [List.setIfInBounds_toArray, List.set_cons_succ, List.set_cons_zero]); rfl))))
  exact bodyPost_ret (v := _) (results_cell_tmp Try.results24 _ _ _ _ _ _ _ (by rfl) (by with_reducible repeat (first | assumption | (refine rw_new ?e_; case e_ => first | rfl | (simp; done) | (simp; omega)) | apply rw_self | (apply rw_other; case hn => first | omega | (simp; omega)) | apply rw_alloc | apply rw_drew | apply rw_drewN)) Try.underlying49 rfl (by exact hR.i49 _)) rfl ⟨rfl, (by with_reducible repeat (first | exact Below.refl _ _ | assumption | ((first | refine Below.alloc ?_ ?b_ _ | refine bw_set ?_ ?b_ | refine Below.setCell ?_ ?b_ _); case b_ => first | omega | (simp; done) | (simp; omega)) | refine Below.drew ?_ | refine below_drewN ?_ _))⟩
theorem drop_big {x : Option Addr} {len cap : Nat} {R : List Value} (n : Int) (h0 : 0 ≤ n) (hn : len < n) (w : World) (hcap : len ≤ cap) (hmax : cap ≤ 9223372036854775807) (hR : OkR R) :
    Calls Try.prog 24 #[(.agg (stA (.slice x len cap) R)), .int .i64 n] w fun e w' => e = .returned (.tuple #[.agg (stA (.slice x len cap) R), .int .i64 20]) ∧ Below w.heap.size w w' := by
  have hz := zeroS
  go_enter Try.func24, Try.ntmps24
  go_wp2_with (first | ((with_reducible refine rw_list ?_); (with_reducible apply wpList_append_eq); (case ho => with_reducible rfl); (case hgd => with_reducible rfl); (case hs => first | exact ev_const | exact ev_tmp rfl); (case hx => first | exact ev_const | exact ev_tmp rfl); (case hr => exact hap _)) | ((with_reducible refine rw_list ?_); (first | ((with_reducible apply wpList_load_cell); (case ho => with_reducible rfl); (case hgd => with_reducible rfl); (case hx => rfl); (case hu => first | exact Try.underlying22 | exact Try.underlying3 | exact Try.underlying55 | exact Try.underlying9 | exact Try.underlying4); (case hd => rfl)) | ((with_reducible apply wpList_load_row); (case ho => with_reducible rfl); (case hgd => with_reducible rfl); (case hx => rfl); (case hu => first | exact Try.underlying49 | exact Try.underlying83 | exact Try.underlying43); (case hd => rfl)) | ((with_reducible apply wpList_store_row); (case ho => with_reducible rfl); (case hgd => with_reducible rfl); (case hx => rfl); (case hy => rfl)) | ((with_reducible apply wpList_store_cell); (case ho => with_reducible rfl); (case hgd => with_reducible rfl); (case hx => rfl); (case hy => first | exact ev_const | exact ev_tmp rfl); (case h1 => rfl))); (case hg => exact (by with_reducible repeat (first | assumption | (refine rw_new ?e_; case e_ => first | rfl | (simp; done) | (simp; omega)) | apply rw_self | (apply rw_other; case hn => first | omega | (simp; omega)) | apply rw_alloc | apply rw_drew | apply rw_drewN))); (try case hv => first | exact stA_get _ _ | rfl); (try case hi => first | exact hR.i49 _ | exact hR.i83 _ | kernel_rfl); (try case hold => first | exact hR.z _ _ | exact hR.sz _ _ | rfl); (try case h1 => first | exact hR.all _ rfl | kernel_rfl); (try case hlt => first | exact stA_lt _ _ | rfl); (try case hcs => first | exact stA_set _ _ _ | ((try simp only [List.setIfInBounds_toArray, List.set_cons_succ, List.set_cons_zero]); rfl))))
  exact bodyPost_ret (v := _) (results_cell_tmp Try.results24 _ _ _ _ _ _ _ (by rfl) (by with_reducible repeat (first | assumption | (refine rw_new ?e_; case e_ => first | rfl | (simp; done) | (simp; omega)) | apply rw_self | (apply rw_other; case hn => first | omega | (simp; omega)) | apply rw_alloc | apply rw_drew | apply rw_drewN)) Try.underlying49 rfl (by exact hR.i49 _)) rfl ⟨rfl, (by with_reducible repeat (first | exact Below.refl _ _ | assumption | ((first | refine Below.alloc ?_ ?b_ _ | refine bw_set ?_ ?b_ | refine Below.setCell ?_ ?b_ _); case b_ => first | omega | (simp; done) | (simp; omega)) | refine Below.drew ?_ | refine below_drewN ?_ _))⟩
theorem drop_ok {x : Option Addr} {len cap : Nat} {R : List Value} (k m : Nat) (hk : k + m = len) (w : World) (hcap : len ≤ cap) (hmax : cap ≤ 9223372036854775807) (hR : OkR R) :
    Calls Try.prog 24 #[(.agg (stA (.slice x len cap) R)), .int .i64 (m : Int)] w fun e w' => e = .returned (.tuple #[.agg (stA (.slice x k k) R), .int .i64 0]) ∧ Below w.heap.size w w' := by
  have hs := fun w => slice_low w x len cap k hcap (by omega)
  have e1 : (len : Int) - (m : Int) = k := by omega
  have hz := zeroS
  go_enter Try.func24, Try.ntmps24
  go_wp2_with (first | ((with_reducible refine rw_list ?_); (with_reducible apply wpList_append_eq); (case ho => with_reducible rfl); (case hgd => with_reducible rfl); (case hs => first | exact ev_const | exact ev_tmp rfl); (case hx => first | exact ev_const | exact ev_tmp rfl); (case hr => exact hap _)) | ((with_reducible refine rw_list ?_); (first | ((with_reducible apply wpList_load_cell); (case ho => with_reducible rfl); (case hgd => with_reducible rfl); (case hx => rfl); (case hu => first | exact Try.underlying22 | exact Try.underlying3 | exact Try.underlying55 | exact Try.underlying9 | exact Try.underlying4); (case hd => rfl)) | ((with_reducible apply wpList_load_row); (case ho => with_reducible rfl); (case hgd => with_reducible rfl); (case hx => rfl); (case hu => first | exact Try.underlying49 | exact Try.underlying83 | exact Try.underlying43); (case hd => rfl)) | ((with_reducible apply wpList_store_row); (case ho => with_reducible rfl); (case hgd => with_reducible rfl); (case hx => rfl); (case hy => rfl)) | ((with_reducible apply wpList_store_cell); (case ho => with_reducible rfl); (case hgd => with_reducible rfl); (case hx => rfl); (case hy => first | exact ev_const | exact ev_tmp rfl); (case h1 => rfl))); (case hg => exact (by with_reducible repeat (first | assumption | (refine rw_new ?e_; case e_ => first | rfl | (simp; done) | (simp; omega)) | apply rw_self | (apply rw_other; case hn => first | omega | (simp; omega)) | apply rw_alloc | apply rw_drew | apply rw_drewN))); (try case hv => first | exact stA_get _ _ | rfl); (try case hi => first | exact hR.i49 _ | exact hR.i83 _ | kernel_rfl); (try case hold => first | exact hR.z _ _ | exact hR.sz _ _ | rfl); (try case h1 => first | exact hR.all _ rfl | kernel_rfl); (try case hlt => first | exact stA_lt _ _ | rfl); (try case hcs => first | exact stA_set _ _ _ | ((try simp only [List.setIfInBounds_toArray, List.set_cons_succ, List.set_cons_zero]); rfl))))
  exact bodyPost_ret (v := _) (results_cell_tmp Try.results24 _ _ _ _ _ _ _ (by rfl) (by with_reducible repeat (first | assumption | (refine rw_new ?e_; case e_ => first | rfl | (simp; done) | (simp; omega)) | apply rw_self | (apply rw_other; case hn => first | omega | (simp; omega)) | apply rw_alloc | apply rw_drew | apply rw_drewN)) Try.underlying49 rfl (by exact hR.i49 _)) rfl ⟨rfl, (by with_reducible repeat (first | exact Below.refl _ _ | assumption | ((first | refine Below.alloc ?_ ?b_ _ | refine bw_set ?_ ?b_ | refine Below.setCell ?_ ?b_ _); case b_ => first | omega | (simp; done) | (simp; omega)) | refine Below.drew ?_ | refine below_drewN ?_ _))⟩
end Go.Proofs.Ytiadenokcpnliaa.T3
