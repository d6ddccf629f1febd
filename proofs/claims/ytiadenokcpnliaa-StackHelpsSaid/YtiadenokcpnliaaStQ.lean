/- chapter 12: few, of, gives. -/
import Derived.Test.YtiadenokcpnliaaStL
import Derived.WalkKit
import Derived.Lib.Hide
import Derived.Deep.QuietTactic
import Derived.BigQuiet
import Derived.Lib.QuietBelow
import Derived.Deep.RegionHeld3
import Derived.WalkLawsBesides
import Derived.WalkSpells
import Derived.Outline
import Derived.Deep.DeepFit
import Derived.Maps.AppendAt
import Derived.Deep.AppendLies
import Derived.Deep.CutRange
import Derived.Test.YtiadenokcpnliaaStP
import Derived.Deep.AppendLies
import Derived.OpenShut
namespace Go.Proofs.Ytiadenokcpnliaa.T3
set_option linter.unusedSimpArgs false
set_option linter.unusedVariables false
open Go.RowKit
attribute [local go_sem] Oper.semAt_some
set_option maxHeartbeats 4000000
set_option maxRecDepth 100000

theorem wpList_wanted {ops : Array Oper} {rest : List Oper} {o : Oper} {a : Act} {w : World} {Q : Exit → Act → World → Prop} (hw : Region.wanted o (yielded ops a.tmps) = true) (h : o.wp Try.prog a w (wpList Try.prog ops Q rest) Q) : wpList Try.prog ops Q (o :: rest) a w := by
  unfold wpList
  rw [if_pos hw]
  exact .inl h
theorem wpList_load_rowg {ops : Array Oper} {rest : List Oper} {o : Oper} {a : Act} {w : World} {Q : Exit → Act → World → Prop} (hw : Region.wanted o (yielded ops a.tmps) = true) (ty : TypeId) (x : Operand) (ho : o.op = .load ty x)
    (g : Nat) (hx : a.eval x = .pointer (some ⟨g, 0, none⟩)) (t : TypeId) (cs : Array Value) (fr : Nat × Nat) (fs : Array Field) (hg : w.heap[g]? = some (.cells cs t fr))
    (hu : Try.prog.underlying ty = some (.struct fs)) (hi : (Try.prog.info? ty).map (·.size) = some cs.size)
    (h : wpList Try.prog ops Q rest (a.put o.dst (.agg cs)) w) : wpList Try.prog ops Q (o :: rest) a w :=
  wpList_wanted hw (wp_load_row ty x ho g hx t cs fr _ hg hu rfl hi h)
theorem rd0 (w : World) : RdR w R0 := by
  have hg : gC (fun _ => 0) none 0 0 none 0 0 false ⟨#[]⟩ (fun i => R0.getD (4 + i) undef) = (R0.drop 4).take 57 := by kernel_rfl
  refine ⟨okR0, none, 0, 0, none, 0, 0, none, 0, 0, 0, fun _ => 0, none, 0, 0, none, 0, 0, false, ⟨#[]⟩, fun i => R0.getD (4 + i) undef, none, 0, 0, none, 0, 0, none, 0, 0, ⟨#[]⟩, 0, by kernel_rfl, by kernel_rfl, by kernel_rfl, by kernel_rfl, fun j v hj => ?_, by kernel_rfl, by kernel_rfl, by kernel_rfl, by kernel_rfl, by kernel_rfl, ⟨[], .inl rfl, rfl, by omega⟩, ⟨[], .inl rfl, rfl, by omega, by simp⟩, ⟨[], .inl rfl, rfl, by omega, by simp⟩, ⟨[], .inl rfl, rfl, by omega, by simp⟩⟩
  rw [hg, List.getElem?_take] at hj
  split at hj
  · rwa [List.getElem?_drop] at hj
  · cases hj
theorem min2 (u v : Int) : (∀ w : World, Sem.run Try.prog (Builtin.min_ #[3, 3] 3 #[.int .i64 u, .int .i64 v]) w = .ok (.int .i64 (min u v)) w) := by
  intro w
  have : min u v = if v < u then v else u := by split <;> omega
  rw [this]
  rfl
theorem few_any {A : Nat → Prop} {x : Option Addr} {len cap : Nat} {R : List Value} {L : List Ob} (w : World) (hln : L.length = len) (hob : Obs A w x L) (hle : len ≤ cap) (hmx : cap ≤ 9223372036854775807) (hnn : x = none → len = 0) (hR : OkR R) :
    Calls Try.prog 11 #[.agg (stA (.slice x len cap) R)] w fun e w' => e = .returned (.agg (stA (.slice x (min len 100) cap) R)) ∧ Below w.heap.size w w' := by
  have hz := zeroS
  obtain ⟨m, hm⟩ : ∃ m, min len 100 = m := ⟨_, rfl⟩
  have hm1 : min (len : Int) 100 = (m : Int) := by omega
  have hmin := min2 (len : Int) 100
  rw [hm1] at hmin
  rw [hm]
  have hs : ∀ w, Sem.run Try.prog (Instr.slice 22 (.slice x len cap) none (some (.int .i64 (m : Int))) none) w = .ok (.slice x m cap) w := fun w => by
    rw [run_slice_h w 22 x len cap el22 .i64 m (by omega) (by omega), size7]
    simp [Result.andThen, sliced]
    intro _
    cases x <;> simp [Addr.add]
  go_enter Try.func11, Try.ntmps11
  go_upto_region 2 with (first | ((with_reducible refine rw_list ?_); (with_reducible apply wpList_append_eq); (case ho => with_reducible rfl); (case hgd => with_reducible rfl); (case hs => first | exact ev_const | exact ev_tmp rfl); (case hx => first | exact ev_const | exact ev_tmp rfl); (case hr => exact hap _)) | ((with_reducible refine rw_list ?_); (first | ((with_reducible apply wpList_load_cell); (case ho => with_reducible rfl); (case hgd => with_reducible rfl); (case hx => rfl); (case hu => first | exact Try.underlying22 | exact Try.underlying3 | exact Try.underlying55 | exact Try.underlying9 | exact Try.underlying4); (case hd => rfl)) | ((with_reducible apply wpList_load_row); (case ho => with_reducible rfl); (case hgd => with_reducible rfl); (case hx => rfl); (case hu => first | exact Try.underlying49 | exact Try.underlying83 | exact Try.underlying43); (case hd => rfl)) | ((with_reducible apply wpList_store_row); (case ho => with_reducible rfl); (case hgd => with_reducible rfl); (case hx => rfl); (case hy => rfl)) | ((with_reducible apply wpList_store_cell); (case ho => with_reducible rfl); (case hgd => with_reducible rfl); (case hx => rfl); (case hy => first | exact ev_const | exact ev_tmp rfl); (case h1 => rfl))); (case hg => exact (by with_reducible repeat (first | assumption | (refine rw_new ?e_; case e_ => first | rfl | (simp; done) | (simp; omega)) | apply rw_self | (apply rw_other; case hn => first | omega | (simp; omega)) | apply rw_alloc | apply rw_drew | apply rw_drewN))); (try case hv => first | exact stA_get _ _ | exact hcur0 | rfl); (try case hi => first | exact hR.i49 _ | exact hR.i83 _ | kernel_rfl); (try case hold => first | exact hR.z _ _ | exact hR.sz _ _ | rfl); (try case h1 => first | exact hR.all _ rfl | kernel_rfl); (try case hlt => first | exact stA_lt _ _ | rfl); (try case hcs => first | exact stA_set _ _ _ | ((try simp only [List.setIfInBounds_toArray, List.set_cons_succ, List.set_cons_zero]); rfl))))
  generalize hwy_ : World.setRow _ _ _ = wy
  have hB_wy : Below w.heap.size w wy := bw_eq hwy_ (by with_reducible repeat (first | exact Below.refl _ _ | assumption | ((first | refine Below.alloc ?_ ?b_ _ | refine bw_set ?_ ?b_ | refine Below.setCell ?_ ?b_ _); case b_ => first | omega | (simp; done) | (simp; omega)) | refine Below.drew ?_ | refine below_drewN ?_ _))
  have hp : wy.heap[w.heap.size]? = some (.cells (stA (.slice x m cap) R) 49 (0, 0)) := rw_eq hwy_ (rw_self (old := stA (.slice x len cap) R) (by with_reducible repeat (first | assumption | (refine rw_new ?e_; case e_ => first | rfl | (simp; done) | (simp; omega)) | apply rw_self | (apply rw_other; case hn => first | omega | (simp; omega)) | apply rw_alloc | apply rw_drew | apply rw_drewN)))
  have hq : wy.heap[w.heap.size + 1]? = some (.cells (stA (.slice none 0 0) R0) 49 (0, 0)) := rw_eq hwy_ (by with_reducible repeat (first | assumption | (refine rw_new ?e_; case e_ => first | rfl | (simp; done) | (simp; omega)) | apply rw_self | (apply rw_other; case hn => first | omega | (simp; omega)) | apply rw_alloc | apply rw_drew | apply rw_drewN))
  clear hwy_
  go_wp2_with (first | ((with_reducible refine rw_list ?_); (with_reducible apply wpList_append_eq); (case ho => with_reducible rfl); (case hgd => with_reducible rfl); (case hs => first | exact ev_const | exact ev_tmp rfl); (case hx => first | exact ev_const | exact ev_tmp rfl); (case hr => exact hap _)) | ((with_reducible refine rw_list ?_); (first | ((with_reducible apply wpList_load_cell); (case ho => with_reducible rfl); (case hgd => with_reducible rfl); (case hx => rfl); (case hu => first | exact Try.underlying22 | exact Try.underlying3 | exact Try.underlying55 | exact Try.underlying9 | exact Try.underlying4); (case hd => rfl)) | ((with_reducible apply wpList_load_row); (case ho => with_reducible rfl); (case hgd => with_reducible rfl); (case hx => rfl); (case hu => first | exact Try.underlying49 | exact Try.underlying83 | exact Try.underlying43); (case hd => rfl)) | ((with_reducible apply wpList_store_row); (case ho => with_reducible rfl); (case hgd => with_reducible rfl); (case hx => rfl); (case hy => rfl)) | ((with_reducible apply wpList_store_cell); (case ho => with_reducible rfl); (case hgd => with_reducible rfl); (case hx => rfl); (case hy => first | exact ev_const | exact ev_tmp rfl); (case h1 => rfl))); (case hg => exact (by with_reducible repeat (first | assumption | (refine rw_new ?e_; case e_ => first | rfl | (simp; done) | (simp; omega)) | apply rw_self | (apply rw_other; case hn => first | omega | (simp; omega)) | apply rw_alloc | apply rw_drew | apply rw_drewN))); (try case hv => first | exact stA_get _ _ | exact hcur0 | rfl); (try case hi => first | exact hR.i49 _ | exact hR.i83 _ | kernel_rfl); (try case hold => first | exact hR.z _ _ | exact hR.sz _ _ | rfl); (try case h1 => first | exact hR.all _ rfl | kernel_rfl); (try case hlt => first | exact stA_lt _ _ | rfl); (try case hcs => first | exact stA_set _ _ _ | ((try simp only [List.setIfInBounds_toArray, List.set_cons_succ, List.set_cons_zero]); rfl))))
  refine bodyPost_ret (v := _) (results_cell_row Try.results11 _ _ _ _ _ _ _ (by rfl) (by with_reducible repeat (first | assumption | (refine rw_new ?e_; case e_ => first | rfl | (simp; done) | (simp; omega)) | apply rw_self | (apply rw_other; case hn => first | omega | (simp; omega)) | apply rw_alloc | apply rw_drew | apply rw_drewN)) Try.underlying49 rfl (by exact hR.i49 _)) rfl ⟨rfl, (by with_reducible repeat (first | exact Below.refl _ _ | assumption | ((first | refine Below.alloc ?_ ?b_ _ | refine bw_set ?_ ?b_ | refine Below.setCell ?_ ?b_ _); case b_ => first | omega | (simp; done) | (simp; omega)) | refine Below.drew ?_ | refine below_drewN ?_ _))⟩
theorem SL.few {A : Nat → Prop} {x : Option Addr} {len cap : Nat} {L : List Ob} {w : World} (hln : L.length = len) (hob : Obs A w x L) (hle : len ≤ cap) (hmx : cap ≤ 9223372036854775807) (hnn : x = none → len = 0) : SL A w x (min len 100) cap (L.take 100) := by
  refine ⟨by simp; omega, hob.take 100, by omega, hmx, fun h => by have := hnn h; omega, by omega⟩
theorem app_ob (W : World) (base : Nat) (v : Value) (n : Nat) (L : List Ob) (hown : W.ownsRow base 43 7 v n (flat L)) (q : Ob) (hn : n ≤ 1000) (hb : base ≤ W.heap.size) :
    ∃ g cap W', (∀ ty, (Builtin.append_ #[22, 22] ty #[v, .slice (some ⟨W.heap.size, 0, none⟩) 1 1]).run Try.prog (W.alloc (.cells #[.int .i64 q.k, .bool q.e, .int .i64 q.n, .string q.s, .int .i64 q.r, .int .i64 q.o, .int .i64 q.l] 43)) = .ok (.slice (some ⟨g, 0, none⟩) (n + 1) cap) W') ∧ W'.ownsRow base 43 7 (.slice (some ⟨g, 0, none⟩) (n + 1) cap) (n + 1) (flat (L ++ [q])) ∧ Below base W W' ∧ W.grownBy W' v.ownBlock ∧ g < W'.heap.size ∧ base ≤ g := by
  have hinfo : (Try.prog.info? 43).map (fun i => (i.zero, i.size, i.bytes)) = some (some (.agg #[.int .i64 0, .bool false, .int .i64 0, .string ⟨#[]⟩, .int .i64 0, .int .i64 0, .int .i64 0]), 7, 64) := by kernel_rfl
  obtain ⟨i, hi, hz0, hz1, hz2⟩ := info_parts hinfo
  have key := fun ty => run_append_lies (P := Try.prog) (W.alloc (.cells #[.int .i64 q.k, .bool q.e, .int .i64 q.n, .string q.s, .int .i64 q.r, .int .i64 q.o, .int .i64 q.l] 43)) 22 ty base 43 i _ 7 64 ul22 hi hz0 hz1 hz2 rfl (by omega) v n (flat L) (hown.alloc _) ⟨W.heap.size, 0, none⟩ 1 1 q.cs rfl (World.news_of_block (heap_alloc_new W _)) (by
    intro u hu
    simp only [Ob.cs, List.mem_cons, List.not_mem_nil, or_false] at hu
    rcases hu with rfl | rfl | rfl | rfl | rfl | rfl | rfl <;> rfl) (by omega) (by unfold maxLen; omega) (by omega) (by simp; omega) _ rfl
  obtain ⟨g, cap, W', h1, h2, h3, h4, h5⟩ := key 0
  have hbg : base ≤ g := (h2.lt g rfl).1
  have hbel : ∀ k, k < W.heap.size → some k ≠ v.ownBlock → W'.heap[k]? = W.heap[k]? := fun k hk hne => (h3.block k (by simp; omega) hne).trans (Below.heap_alloc _ _ _ hk)
  have hsz := h3.size
  simp at hsz
  refine ⟨g, cap, W', fun ty => ?_, ?_, ⟨h3.os, h3.tape, h3.output, by omega, fun k hk => hbel k (by omega) (fun hc => ?_)⟩, ⟨h3.os, h3.tape, h3.output, by omega, fun k hk hne => hbel k hk hne⟩, h5, hbg⟩
  · rw [← h1]; rfl
  · rw [flat_app]
    have e : flat [q] = q.cs := by simp [flat]
    rw [e]; exact h2
  · have := hown.lt k hc.symm
    omega
theorem SL.of_own {w : World} {base n : Nat} {v : Value} {L : List Ob} (h : w.ownsRow base 43 7 v n (flat L)) (hn : n ≤ 1000) : ∃ x cap, v = .slice x n cap ∧ SL (fun b => base ≤ b) w x n cap L := by
  have hl : L.length = n := by have := h.1; rw [flat_len] at this; omega
  rcases h.2 with ⟨rfl, h0⟩ | ⟨g, cap, cur, rfl, hb, hg, h1, h2, h3, h4⟩
  · subst h0
    exact ⟨none, 0, rfl, hl, .inl (List.eq_nil_of_length_eq_zero hl), Nat.le_refl _, by omega, fun _ => rfl, by omega⟩
  · refine ⟨some ⟨g, 0, none⟩, cap, rfl, hl, Obs.of_row hg (fun q u hq => ?_) hb, h1, by unfold maxLen at h2; omega, (fun h => by cases h), hn⟩
    rw [← h4] at hq
    rw [List.getElem?_take] at hq
    split at hq
    · simpa using hq
    · cases hq
theorem own_set {w : World} {base : Nat} {e : TypeId} {s : Nat} {v : Value} {n : Nat} {xs : List Value} {k : Nat} {cs : Array Value} (h : w.ownsRow base e s v n xs) (hk : k < base) : (w.setRow k cs).ownsRow base e s v n xs := by
  refine ⟨h.1, ?_⟩
  rcases h.2 with h2 | ⟨g, cap, cur, h2, h3, h4, h5⟩
  · exact .inl h2
  · exact .inr ⟨g, cap, cur, h2, h3, (setRow_other w k g cs (by omega)).trans h4, h5⟩
/-- the objects of whole numbers -/
def its (l : List Int) : List Ob := l.map it
theorem of_any (l : List Int) (g c : Nat) (w : World) (hg : w.heap[g]? = some (.cells (l.map (Value.int .i64)).toArray 3 (0, 0))) (hl : l.length ≤ 100) :
    Calls Try.prog 19 #[.slice (some ⟨g, 0, none⟩) l.length c] w fun e w' => (∃ x cap, e = .returned (.agg (stA (.slice x l.length cap) R0)) ∧ SL (fun b => w.heap.size ≤ b) w' x l.length cap (its l)) ∧ Below w.heap.size w w' := by
  have hz := zeroS
  have hgl := rw_lt hg
  have hcl := fun (j : Nat) (hj : j < l.length) => (cell_of_row w g j _ _ _ hg).trans (show (l.map (Value.int .i64)).toArray[j]? = some (.int .i64 l[j]) by simp [hj])
  go_enter Try.func19, Try.ntmps19
  go_wp2_with (first | ((with_reducible refine rw_list ?_); (with_reducible apply wpList_append_eq); (case ho => with_reducible rfl); (case hgd => with_reducible rfl); (case hs => first | exact ev_const | exact ev_tmp rfl); (case hx => first | exact ev_const | exact ev_tmp rfl); (case hr => exact hap _)) | ((with_reducible refine rw_list ?_); (first | ((with_reducible apply wpList_load_cell); (case ho => with_reducible rfl); (case hgd => with_reducible rfl); (case hx => rfl); (case hu => first | exact Try.underlying22 | exact Try.underlying3 | exact Try.underlying55 | exact Try.underlying9 | exact Try.underlying4); (case hd => rfl)) | ((with_reducible apply wpList_load_row); (case ho => with_reducible rfl); (case hgd => with_reducible rfl); (case hx => rfl); (case hu => first | exact Try.underlying49 | exact Try.underlying83 | exact Try.underlying43); (case hd => rfl)) | ((with_reducible apply wpList_store_row); (case ho => with_reducible rfl); (case hgd => with_reducible rfl); (case hx => rfl); (case hy => rfl)) | ((with_reducible apply wpList_store_cell); (case ho => with_reducible rfl); (case hgd => with_reducible rfl); (case hx => rfl); (case hy => first | exact ev_const | exact ev_tmp rfl); (case h1 => rfl))); (case hg => exact (by with_reducible repeat (first | assumption | (refine rw_new ?e_; case e_ => first | rfl | (simp; done) | (simp; omega)) | apply rw_self | (apply rw_other; case hn => first | omega | (simp; omega)) | apply rw_alloc | apply rw_drew | apply rw_drewN))); (try case hv => first | exact stA_get _ _ | exact hcur0 | rfl); (try case hi => first | exact okR0.i49 _ | exact okR0.i83 _ | kernel_rfl); (try case hold => first | exact okR0.z _ _ | exact okR0.sz _ _ | rfl); (try case h1 => first | exact okR0.all _ rfl | kernel_rfl); (try case hlt => first | exact stA_lt _ _ | rfl); (try case hcs => first | exact stA_set _ _ _ | ((try simp only [List.setIfInBounds_toArray, List.set_cons_succ, List.set_cons_zero]); rfl))))
  go_loopw [8] (fun v wr => ∃ (i : Nat) (x : Option Addr) (cap : Nat), i ≤ l.length ∧ v = .int .i64 i ∧ Below w.heap.size w wr ∧ wr.heap[w.heap.size]? = some (.cells (stA (.slice none 0 0) R0) 49 (0, 0)) ∧ wr.heap[w.heap.size + 1]? = some (.cells (stA (.slice x i cap) R0) 49 (0, 0)) ∧ wr.ownsRow (w.heap.size + 2) 43 7 (.slice x i cap) i (flat (its (l.take i)))) (fun v _ => l.length - (intOf v).toNat)
  case atStart => exact ⟨0, none, 0, Nat.zero_le _, rfl, (by with_reducible repeat (first | exact Below.refl _ _ | assumption | ((first | refine Below.alloc ?_ ?b_ _ | refine bw_set ?_ ?b_ | refine Below.setCell ?_ ?b_ _); case b_ => first | omega | (simp; done) | (simp; omega)) | refine Below.drew ?_ | refine below_drewN ?_ _)), (by with_reducible repeat (first | assumption | (refine rw_new ?e_; case e_ => first | rfl | (simp; done) | (simp; omega)) | apply rw_self | (apply rw_other; case hn => first | omega | (simp; omega)) | apply rw_alloc | apply rw_drew | apply rw_drewN)), (by with_reducible repeat (first | assumption | (refine rw_new ?e_; case e_ => first | rfl | (simp; done) | (simp; omega)) | apply rw_self | (apply rw_other; case hn => first | omega | (simp; omega)) | apply rw_alloc | apply rw_drew | apply rw_drewN)), by simpa [its, flat] using World.ownsRow_nil _ _ _ _⟩
  case round =>
    obtain ⟨i, x, cap, hi, rfl, hB, hp, hq, hown⟩ := hrel
    have hsz := hB.size
    have hlq := rw_lt hq
    by_cases hlt : i < l.length
    · have hc := (hB.cell (p := ⟨g, i, none⟩) hgl).trans (hcl i hlt)
      obtain ⟨q, hqq⟩ : ∃ q, l[i] = q := ⟨_, rfl⟩
      have Htk := Lib.hid (show its (l.take i) ++ [it q] = its (l.take (i + 1)) by
        unfold its
        rw [List.take_add_one, List.getElem?_eq_getElem hlt, hqq]
        simp)
      rw [hqq] at hc
      obtain ⟨g2, cap', W', hap, hown', hbW, hgr, hgl2, hbg⟩ := app_ob wr (w.heap.size + 2) _ i _ hown (it q) (by omega) (by omega)
      have hne0 : some w.heap.size ≠ (Value.slice x i cap).ownBlock := fun h => by have := hown.lt _ h.symm; omega
      have hne1 : some (w.heap.size + 1) ≠ (Value.slice x i cap).ownBlock := fun h => by have := hown.lt _ h.symm; omega
      have hp' := (hgr.block w.heap.size (by omega) hne0).trans hp
      have hq' := (hgr.block (w.heap.size + 1) (by omega) hne1).trans hq
      have hB_W : Below w.heap.size w W' := hB.trans (hbW.mono (by omega))
      rw [Htk.out] at hown'
      have hle2 := hB_W.size
      clear hqq hgr hbW
      go_upto_region 5 with fail
      clear hc
      simp only [it] at hap
      go_wp2_with (first | ((with_reducible refine rw_list ?_); (with_reducible apply wpList_append_eq); (case ho => with_reducible rfl); (case hgd => with_reducible rfl); (case hs => first | exact ev_const | exact ev_tmp rfl); (case hx => first | exact ev_const | exact ev_tmp rfl); (case hr => exact hap _)) | ((with_reducible refine rw_list ?_); (first | ((with_reducible apply wpList_load_cell); (case ho => with_reducible rfl); (case hgd => with_reducible rfl); (case hx => rfl); (case hu => first | exact Try.underlying22 | exact Try.underlying3 | exact Try.underlying55 | exact Try.underlying9 | exact Try.underlying4); (case hd => rfl)) | ((with_reducible apply wpList_load_row); (case ho => with_reducible rfl); (case hgd => with_reducible rfl); (case hx => rfl); (case hu => first | exact Try.underlying49 | exact Try.underlying83 | exact Try.underlying43); (case hd => rfl)) | ((with_reducible apply wpList_store_row); (case ho => with_reducible rfl); (case hgd => with_reducible rfl); (case hx => rfl); (case hy => rfl)) | ((with_reducible apply wpList_store_cell); (case ho => with_reducible rfl); (case hgd => with_reducible rfl); (case hx => rfl); (case hy => first | exact ev_const | exact ev_tmp rfl); (case h1 => rfl))); (case hg => exact (by with_reducible repeat (first | assumption | (refine rw_new ?e_; case e_ => first | rfl | (simp; done) | (simp; omega)) | apply rw_self | (apply rw_other; case hn => first | omega | (simp; omega)) | apply rw_alloc | apply rw_drew | apply rw_drewN))); (try case hv => first | exact stA_get _ _ | exact hcur0 | rfl); (try case hi => first | exact okR0.i49 _ | exact okR0.i83 _ | kernel_rfl); (try case hold => first | exact okR0.z _ _ | exact okR0.sz _ _ | rfl); (try case h1 => first | exact okR0.all _ rfl | kernel_rfl); (try case hlt => first | exact stA_lt _ _ | rfl); (try case hcs => first | exact stA_set _ _ _ | ((try simp only [List.setIfInBounds_toArray, List.set_cons_succ, List.set_cons_zero]); rfl))))
      go_roundw
      case rel => exact ⟨i + 1, some ⟨g2, 0, none⟩, cap', by omega, by go_num, (by with_reducible repeat (first | exact Below.refl _ _ | assumption | ((first | refine Below.alloc ?_ ?b_ _ | refine bw_set ?_ ?b_ | refine Below.setCell ?_ ?b_ _); case b_ => first | omega | (simp; done) | (simp; omega)) | refine Below.drew ?_ | refine below_drewN ?_ _)), (by with_reducible repeat (first | assumption | (refine rw_new ?e_; case e_ => first | rfl | (simp; done) | (simp; omega)) | apply rw_self | (apply rw_other; case hn => first | omega | (simp; omega)) | apply rw_alloc | apply rw_drew | apply rw_drewN)), rw_self hq', own_set hown' (by omega)⟩
      case measure => simp [intOf]; omega
    · have hin : i = l.length := by omega
      subst hin
      have hown2 := hown
      rw [List.take_length] at hown2
      obtain ⟨x', cap', hv, hS⟩ := SL.of_own hown2 (by omega)
      cases hv
      clear hown hown2
      go_wp2_with (first | ((with_reducible refine rw_list ?_); (with_reducible apply wpList_append_eq); (case ho => with_reducible rfl); (case hgd => with_reducible rfl); (case hs => first | exact ev_const | exact ev_tmp rfl); (case hx => first | exact ev_const | exact ev_tmp rfl); (case hr => exact hap _)) | ((with_reducible refine rw_list ?_); (first | ((with_reducible apply wpList_load_cell); (case ho => with_reducible rfl); (case hgd => with_reducible rfl); (case hx => rfl); (case hu => first | exact Try.underlying22 | exact Try.underlying3 | exact Try.underlying55 | exact Try.underlying9 | exact Try.underlying4); (case hd => rfl)) | ((with_reducible apply wpList_load_row); (case ho => with_reducible rfl); (case hgd => with_reducible rfl); (case hx => rfl); (case hu => first | exact Try.underlying49 | exact Try.underlying83 | exact Try.underlying43); (case hd => rfl)) | ((with_reducible apply wpList_store_row); (case ho => with_reducible rfl); (case hgd => with_reducible rfl); (case hx => rfl); (case hy => rfl)) | ((with_reducible apply wpList_store_cell); (case ho => with_reducible rfl); (case hgd => with_reducible rfl); (case hx => rfl); (case hy => first | exact ev_const | exact ev_tmp rfl); (case h1 => rfl))); (case hg => exact (by with_reducible repeat (first | assumption | (refine rw_new ?e_; case e_ => first | rfl | (simp; done) | (simp; omega)) | apply rw_self | (apply rw_other; case hn => first | omega | (simp; omega)) | apply rw_alloc | apply rw_drew | apply rw_drewN))); (try case hv => first | exact stA_get _ _ | exact hcur0 | rfl); (try case hi => first | exact okR0.i49 _ | exact okR0.i83 _ | kernel_rfl); (try case hold => first | exact okR0.z _ _ | exact okR0.sz _ _ | rfl); (try case h1 => first | exact okR0.all _ rfl | kernel_rfl); (try case hlt => first | exact stA_lt _ _ | rfl); (try case hcs => first | exact stA_set _ _ _ | ((try simp only [List.setIfInBounds_toArray, List.set_cons_succ, List.set_cons_zero]); rfl))))
      refine bodyPost_ret (v := _) (results_cell_row Try.results19 _ _ _ _ _ _ _ (by rfl) (by with_reducible repeat (first | assumption | (refine rw_new ?e_; case e_ => first | rfl | (simp; done) | (simp; omega)) | apply rw_self | (apply rw_other; case hn => first | omega | (simp; omega)) | apply rw_alloc | apply rw_drew | apply rw_drewN)) Try.underlying49 rfl (by exact okR0.i49 _)) rfl ⟨⟨_, _, rfl, ?_⟩, (by with_reducible repeat (first | exact Below.refl _ _ | assumption | ((first | refine Below.alloc ?_ ?b_ _ | refine bw_set ?_ ?b_ | refine Below.setCell ?_ ?b_ _); case b_ => first | omega | (simp; done) | (simp; omega)) | refine Below.drew ?_ | refine below_drewN ?_ _))⟩
      refine SL.mono (A := fun b => w.heap.size + 2 ≤ b) ?_ (fun b _ hb => by omega)
      exact hS.keep (by first | exact Nat.le_refl _ | omega | (simp; done) | (simp; omega)) (fun b hA hlt => by (with_reducible repeat (first | rfl | (refine (setRow_other _ _ _ _ ?n_).trans ?_; case n_ => first | omega | (simp; omega)) | (refine (Below.heap_alloc _ _ _ ?n_).trans ?_; case n_ => first | omega | (simp; omega)))))
end Go.Proofs.Ytiadenokcpnliaa.T3
