/- ToneInks: the walk. -/
import Derived.Test.YtdkkjlapmaageaaToU
import Derived.Test.YtdkkjlapmaageaaToV
import Derived.WalkKit
import Derived.Lib.Hide
import Derived.Deep.QuietTactic
import Derived.BigQuiet
import Derived.Lib.QuietBelow
import Derived.Deep.RegionHeld3
import Derived.WalkLawsBesides
import Derived.WalkSpells
import Derived.Outline
import Derived.Deep.DeepFit
import Derived.Maps.AppendAt
import Derived.Deep.AppendLies
import Derived.Deep.CutRange
import Derived.OpenShut
namespace Go.Proofs.Ytdkkjlapmaageaa.T3
set_option linter.unusedSimpArgs false
set_option linter.unusedVariables false
open Go.RowKit Go.Sort Go.Lib Go.Shelf
set_option maxHeartbeats 4000000
set_option maxRecDepth 100000

theorem psum_at (t a b c d : Int) : bits BinOp.and IntKind.i64 (psum t a b c d 4) 1 = (if t < a then 1 else 0) ∧ bits BinOp.and IntKind.i64 (psum t a b c d 4 / 2) 1 = (if t < b then 1 else 0) ∧ bits BinOp.and IntKind.i64 (psum t a b c d 4 / 4) 1 = (if t < c then 1 else 0) ∧ bits BinOp.and IntKind.i64 (psum t a b c d 4 / 8) 1 = (if t < d then 1 else 0) := by
  have e : psum t a b c d 4 = 0 + (if t < a then 1 else 0) + (if t < b then 2 else 0) + (if t < c then 4 else 0) + (if t < d then 8 else 0) := rfl
  rw [e]
  by_cases h1 : t < a <;> by_cases h2 : t < b <;> by_cases h3 : t < c <;> by_cases h4 : t < d <;> simp only [h1, h2, h3, h4, if_true, if_false] <;> exact ⟨rfl, rfl, rfl, rfl⟩
theorem inks_walk (K Wd Hd : Int) (x : Option Addr) (len cap : Nat) (a b c d px py : Int) (w : World) (s_K : (Lit.int .u8 K).wf = true) (s_Wd : (Lit.int .u8 Wd).wf = true) (s_Hd : (Lit.int .u8 Hd).wf = true) (s_x : IsRow .u8 w x len cap) (s_a : (Lit.int .u8 a).wf = true) (s_b : (Lit.int .u8 b).wf = true) (s_c : (Lit.int .u8 c).wf = true) (s_d : (Lit.int .u8 d).wf = true) (s_px : (Lit.int .i32 px).wf = true) (s_py : (Lit.int .i32 py).wf = true) :
    Calls Try.prog 7 #[.agg #[.int .u8 K, .int .u8 Wd, .int .u8 Hd, .slice x len cap], .agg #[.int .u8 a, .int .u8 b, .int .u8 c, .int .u8 d], .int .i32 px, .int .i32 py] w fun e w' => e = .returned (.bool true) ∧ Below w.heap.size w w' := by
  have hoct := s_x.octets
  have hlen := s_x.le
  have hdr := fun w1 (h : Octets w1 x len) => draft_any K Wd Hd x len cap w1 (bounds_u8 s_K) (bounds_u8 s_Wd) (bounds_u8 s_Hd) h hlen
  obtain ⟨W, hW⟩ : ∃ W, 1 + Wd % 16 = W := ⟨_, rfl⟩
  obtain ⟨H, hH⟩ : ∃ H, 1 + Hd % 16 = H := ⟨_, rfl⟩
  rw [hW, hH] at hdr
  have ha := bounds_u8 s_a
  have hb := bounds_u8 s_b
  have hc := bounds_u8 s_c
  have hd := bounds_u8 s_d
  have hof := fun w => of_any a b c d w ha hb hc hd
  have hpx := bounds_i32 s_px
  have hpy := bounds_i32 s_py
  have hI : okI a b c d := fun j hj => by rcases four j hj with rfl | rfl | rfl | rfl <;> assumption
  have hI' : okI d c b a := fun j hj => by rcases four j hj with rfl | rfl | rfl | rfl <;> assumption
  obtain ⟨hpx1, hpx2⟩ := hpx
  obtain ⟨hpy1, hpy2⟩ := hpy
  clear hW hH s_K s_Wd s_Hd s_x s_a s_b s_c s_d s_px s_py
  go_enter Try.func7, Try.ntmps7
  go_wp2_with ((with_reducible refine rw_list ?_); (first | ((with_reducible apply wpList_load_cell); (case ho => with_reducible rfl); (case hgd => with_reducible rfl); (case hx => rfl); (case hu => first | exact Try.underlying26 | exact Try.underlying39 | exact Try.underlying40 | exact Try.underlying24 | exact Try.underlying3); (case hd => rfl)) | ((with_reducible apply wpList_load_row); (case ho => with_reducible rfl); (case hgd => with_reducible rfl); (case hx => rfl); (case hu => first | exact Try.underlying26 | exact Try.underlying39 | exact Try.underlying40 | exact Try.underlying24 | exact Try.underlying3); (case hd => rfl)) | ((with_reducible apply wpList_store_row); (case ho => with_reducible rfl); (case hgd => with_reducible rfl); (case hx => rfl); (case hy => rfl)) | ((with_reducible apply wpList_store_cell); (case ho => with_reducible rfl); (case hgd => with_reducible rfl); (case hx => rfl); (case hy => first | exact ev_const | exact ev_tmp rfl); (case h1 => rfl))); (case hg => exact (by with_reducible repeat (first | assumption | (refine rw_new ?e_; case e_ => first | rfl | (simp; done) | (simp; omega)) | apply rw_self | (apply rw_other; case hn => first | omega | (simp; omega)) | apply rw_alloc | apply rw_drew | apply rw_drewN))); (try case hv => rfl); (try case hi => kernel_rfl); (try case hold => rfl); (try case h1 => kernel_rfl); (try case hlt => rfl); (try case hcs => ((try simp only [List.setIfInBounds_toArray, List.set_cons_succ, List.set_cons_zero]); rfl)))
  refine (works_any _).mono ?_
  rintro e w1 ⟨rfl, hb⟩
  have hs_w1 := hb.size
  (try simp at hs_w1)
  have hB_w1 : Below w.heap.size w w1 := below_then (w := w) (by with_reducible repeat (first | exact Below.refl _ _ | assumption | ((first | refine Below.alloc ?_ ?b_ _ | refine bw_set ?_ ?b_ | refine Below.setCell ?_ ?b_ _); case b_ => first | omega | (simp; done) | (simp; omega)) | refine Below.drew ?_ | refine below_drewN ?_ _)) (by first | omega | (simp; done) | (simp; omega) | (have hq_ := hb.size; omega)) hb
  have hx_ := rw_below (k := w.heap.size) hb (by with_reducible repeat (first | assumption | (refine rw_new ?e_; case e_ => first | rfl | (simp; done) | (simp; omega)) | apply rw_self | (apply rw_other; case hn => first | omega | (simp; omega)) | apply rw_alloc | apply rw_drew | apply rw_drewN))
  (try clear hp)
  have hp := hx_
  clear hx_
  have hx_ := rw_below (k := w.heap.size + 1) hb (by with_reducible repeat (first | assumption | (refine rw_new ?e_; case e_ => first | rfl | (simp; done) | (simp; omega)) | apply rw_self | (apply rw_other; case hn => first | omega | (simp; omega)) | apply rw_alloc | apply rw_drew | apply rw_drewN))
  (try clear hu)
  have hu := hx_
  clear hx_
  clear hb
  go_wp2_with ((with_reducible refine rw_list ?_); (first | ((with_reducible apply wpList_load_cell); (case ho => with_reducible rfl); (case hgd => with_reducible rfl); (case hx => rfl); (case hu => first | exact Try.underlying26 | exact Try.underlying39 | exact Try.underlying40 | exact Try.underlying24 | exact Try.underlying3); (case hd => rfl)) | ((with_reducible apply wpList_load_row); (case ho => with_reducible rfl); (case hgd => with_reducible rfl); (case hx => rfl); (case hu => first | exact Try.underlying26 | exact Try.underlying39 | exact Try.underlying40 | exact Try.underlying24 | exact Try.underlying3); (case hd => rfl)) | ((with_reducible apply wpList_store_row); (case ho => with_reducible rfl); (case hgd => with_reducible rfl); (case hx => rfl); (case hy => rfl)) | ((with_reducible apply wpList_store_cell); (case ho => with_reducible rfl); (case hgd => with_reducible rfl); (case hx => rfl); (case hy => first | exact ev_const | exact ev_tmp rfl); (case h1 => rfl))); (case hg => exact (by with_reducible repeat (first | assumption | (refine rw_new ?e_; case e_ => first | rfl | (simp; done) | (simp; omega)) | apply rw_self | (apply rw_other; case hn => first | omega | (simp; omega)) | apply rw_alloc | apply rw_drew | apply rw_drewN))); (try case hv => rfl); (try case hi => kernel_rfl); (try case hold => rfl); (try case h1 => kernel_rfl); (try case hlt => rfl); (try case hcs => ((try simp only [List.setIfInBounds_toArray, List.set_cons_succ, List.set_cons_zero]); rfl)))
  refine (hdr _ (hoct.below hB_w1 (Nat.le_refl _))).mono ?_
  rintro e w2 ⟨⟨T, hT, rfl⟩, hB1⟩
  have hb := hB1
  clear hB1
  have hs_w2 := hb.size
  (try simp at hs_w2)
  have hB_w2 : Below w.heap.size w w2 := below_then (w := w) (by with_reducible repeat (first | exact Below.refl _ _ | assumption | ((first | refine Below.alloc ?_ ?b_ _ | refine bw_set ?_ ?b_ | refine Below.setCell ?_ ?b_ _); case b_ => first | omega | (simp; done) | (simp; omega)) | refine Below.drew ?_ | refine below_drewN ?_ _)) (by first | omega | (simp; done) | (simp; omega) | (have hq_ := hb.size; omega)) hb
  have hx_ := rw_below (k := w.heap.size + 1) hb (by with_reducible repeat (first | assumption | (refine rw_new ?e_; case e_ => first | rfl | (simp; done) | (simp; omega)) | apply rw_self | (apply rw_other; case hn => first | omega | (simp; omega)) | apply rw_alloc | apply rw_drew | apply rw_drewN))
  (try clear hu)
  have hu := hx_
  clear hx_
  clear hb
  have hS := okT_size hT
  go_wp2_with ((with_reducible refine rw_list ?_); (first | ((with_reducible apply wpList_load_cell); (case ho => with_reducible rfl); (case hgd => with_reducible rfl); (case hx => rfl); (case hu => first | exact Try.underlying26 | exact Try.underlying39 | exact Try.underlying40 | exact Try.underlying24 | exact Try.underlying3); (case hd => rfl)) | ((with_reducible apply wpList_load_row); (case ho => with_reducible rfl); (case hgd => with_reducible rfl); (case hx => rfl); (case hu => first | exact Try.underlying26 | exact Try.underlying39 | exact Try.underlying40 | exact Try.underlying24 | exact Try.underlying3); (case hd => rfl)) | ((with_reducible apply wpList_store_row); (case ho => with_reducible rfl); (case hgd => with_reducible rfl); (case hx => rfl); (case hy => rfl)) | ((with_reducible apply wpList_store_cell); (case ho => with_reducible rfl); (case hgd => with_reducible rfl); (case hx => rfl); (case hy => first | exact ev_const | exact ev_tmp rfl); (case h1 => rfl))); (case hg => exact (by with_reducible repeat (first | assumption | (refine rw_new ?e_; case e_ => first | rfl | (simp; done) | (simp; omega)) | apply rw_self | (apply rw_other; case hn => first | omega | (simp; omega)) | apply rw_alloc | apply rw_drew | apply rw_drewN))); (try case hv => rfl); (try case hi => kernel_rfl); (try case hold => rfl); (try case h1 => kernel_rfl); (try case hlt => rfl); (try case hcs => ((try simp only [List.setIfInBounds_toArray, List.set_cons_succ, List.set_cons_zero]); rfl)))
  refine (hof _).mono ?_
  rintro e w3 ⟨rfl, hb⟩
  have hs_w3 := hb.size
  (try simp at hs_w3)
  have hB_w3 : Below w.heap.size w w3 := below_then (w := w) (by with_reducible repeat (first | exact Below.refl _ _ | assumption | ((first | refine Below.alloc ?_ ?b_ _ | refine bw_set ?_ ?b_ | refine Below.setCell ?_ ?b_ _); case b_ => first | omega | (simp; done) | (simp; omega)) | refine Below.drew ?_ | refine below_drewN ?_ _)) (by first | omega | (simp; done) | (simp; omega) | (have hq_ := hb.size; omega)) hb
  have hx_ := rw_below (k := w2.heap.size) hb (by with_reducible repeat (first | assumption | (refine rw_new ?e_; case e_ => first | rfl | (simp; done) | (simp; omega)) | apply rw_self | (apply rw_other; case hn => first | omega | (simp; omega)) | apply rw_alloc | apply rw_drew | apply rw_drewN))
  (try clear ht)
  have ht := hx_
  clear hx_
  clear hb
  go_wp2_with ((with_reducible refine rw_list ?_); (first | ((with_reducible apply wpList_load_cell); (case ho => with_reducible rfl); (case hgd => with_reducible rfl); (case hx => rfl); (case hu => first | exact Try.underlying26 | exact Try.underlying39 | exact Try.underlying40 | exact Try.underlying24 | exact Try.underlying3); (case hd => rfl)) | ((with_reducible apply wpList_load_row); (case ho => with_reducible rfl); (case hgd => with_reducible rfl); (case hx => rfl); (case hu => first | exact Try.underlying26 | exact Try.underlying39 | exact Try.underlying40 | exact Try.underlying24 | exact Try.underlying3); (case hd => rfl)) | ((with_reducible apply wpList_store_row); (case ho => with_reducible rfl); (case hgd => with_reducible rfl); (case hx => rfl); (case hy => rfl)) | ((with_reducible apply wpList_store_cell); (case ho => with_reducible rfl); (case hgd => with_reducible rfl); (case hx => rfl); (case hy => first | exact ev_const | exact ev_tmp rfl); (case h1 => rfl))); (case hg => exact (by with_reducible repeat (first | assumption | (refine rw_new ?e_; case e_ => first | rfl | (simp; done) | (simp; omega)) | apply rw_self | (apply rw_other; case hn => first | omega | (simp; omega)) | apply rw_alloc | apply rw_drew | apply rw_drewN))); (try case hv => rfl); (try case hi => kernel_rfl); (try case hold => rfl); (try case h1 => kernel_rfl); (try case hlt => rfl); (try case hcs => ((try simp only [List.setIfInBounds_toArray, List.set_cons_succ, List.set_cons_zero]); rfl)))
  refine (bits_ok px py _ hT hI hS).mono ?_
  rintro e w4 ⟨rfl, hb⟩
  have hs_w4 := hb.size
  (try simp at hs_w4)
  have hB_w4 : Below w.heap.size w w4 := below_then (w := w) (by with_reducible repeat (first | exact Below.refl _ _ | assumption | ((first | refine Below.alloc ?_ ?b_ _ | refine bw_set ?_ ?b_ | refine Below.setCell ?_ ?b_ _); case b_ => first | omega | (simp; done) | (simp; omega)) | refine Below.drew ?_ | refine below_drewN ?_ _)) (by first | omega | (simp; done) | (simp; omega) | (have hq_ := hb.size; omega)) hb
  have hx_ := rw_below (k := w2.heap.size) hb (by with_reducible repeat (first | assumption | (refine rw_new ?e_; case e_ => first | rfl | (simp; done) | (simp; omega)) | apply rw_self | (apply rw_other; case hn => first | omega | (simp; omega)) | apply rw_alloc | apply rw_drew | apply rw_drewN))
  (try clear ht)
  have ht := hx_
  clear hx_
  have hx_ := rw_below (k := w3.heap.size) hb (by with_reducible repeat (first | assumption | (refine rw_new ?e_; case e_ => first | rfl | (simp; done) | (simp; omega)) | apply rw_self | (apply rw_other; case hn => first | omega | (simp; omega)) | apply rw_alloc | apply rw_drew | apply rw_drewN))
  (try clear hi)
  have hi := hx_
  clear hx_
  clear hb
  go_wp2_with ((with_reducible refine rw_list ?_); (first | ((with_reducible apply wpList_load_cell); (case ho => with_reducible rfl); (case hgd => with_reducible rfl); (case hx => rfl); (case hu => first | exact Try.underlying26 | exact Try.underlying39 | exact Try.underlying40 | exact Try.underlying24 | exact Try.underlying3); (case hd => rfl)) | ((with_reducible apply wpList_load_row); (case ho => with_reducible rfl); (case hgd => with_reducible rfl); (case hx => rfl); (case hu => first | exact Try.underlying26 | exact Try.underlying39 | exact Try.underlying40 | exact Try.underlying24 | exact Try.underlying3); (case hd => rfl)) | ((with_reducible apply wpList_store_row); (case ho => with_reducible rfl); (case hgd => with_reducible rfl); (case hx => rfl); (case hy => rfl)) | ((with_reducible apply wpList_store_cell); (case ho => with_reducible rfl); (case hgd => with_reducible rfl); (case hx => rfl); (case hy => first | exact ev_const | exact ev_tmp rfl); (case h1 => rfl))); (case hg => exact (by with_reducible repeat (first | assumption | (refine rw_new ?e_; case e_ => first | rfl | (simp; done) | (simp; omega)) | apply rw_self | (apply rw_other; case hn => first | omega | (simp; omega)) | apply rw_alloc | apply rw_drew | apply rw_drewN))); (try case hv => rfl); (try case hi => kernel_rfl); (try case hold => rfl); (try case h1 => kernel_rfl); (try case hlt => rfl); (try case hcs => ((try simp only [List.setIfInBounds_toArray, List.set_cons_succ, List.set_cons_zero]); rfl)))
  refine (bits_ok px py _ hT hI' hS).mono ?_
  rintro e w5 ⟨rfl, hb⟩
  have hs_w5 := hb.size
  (try simp at hs_w5)
  have hB_w5 : Below w.heap.size w w5 := below_then (w := w) (by with_reducible repeat (first | exact Below.refl _ _ | assumption | ((first | refine Below.alloc ?_ ?b_ _ | refine bw_set ?_ ?b_ | refine Below.setCell ?_ ?b_ _); case b_ => first | omega | (simp; done) | (simp; omega)) | refine Below.drew ?_ | refine below_drewN ?_ _)) (by first | omega | (simp; done) | (simp; omega) | (have hq_ := hb.size; omega)) hb
  have hx_ := rw_below (k := w2.heap.size) hb (by with_reducible repeat (first | assumption | (refine rw_new ?e_; case e_ => first | rfl | (simp; done) | (simp; omega)) | apply rw_self | (apply rw_other; case hn => first | omega | (simp; omega)) | apply rw_alloc | apply rw_drew | apply rw_drewN))
  (try clear ht)
  have ht := hx_
  clear hx_
  have hx_ := rw_below (k := w3.heap.size) hb (by with_reducible repeat (first | assumption | (refine rw_new ?e_; case e_ => first | rfl | (simp; done) | (simp; omega)) | apply rw_self | (apply rw_other; case hn => first | omega | (simp; omega)) | apply rw_alloc | apply rw_drew | apply rw_drewN))
  (try clear hi)
  have hi := hx_
  clear hx_
  clear hb
  have hset := fun n w hn => lset_ok (n := n) px py w hT hn hS
  obtain ⟨t, ht0⟩ : ∃ t, thr T W H px py = t := ⟨_, rfl⟩
  rw [ht0] at hset ⊢
  obtain ⟨n, hn⟩ : ∃ n, psum t a b c d 4 = n := ⟨_, rfl⟩
  obtain ⟨m, hm⟩ : ∃ m, psum t d c b a 4 = m := ⟨_, rfl⟩
  have hn0 := psum_at t a b c d
  have hm0 := psum_at t d c b a
  have hn1 := psum_bd t a b c d 4
  have hm1 := psum_bd t d c b a 4
  rw [hn] at hn1 hn0 ⊢
  rw [hm] at hm1 hm0 ⊢
  obtain ⟨n1, n2, _⟩ := hn1
  obtain ⟨m1, m2, _⟩ := hm1
  have n3 : n < 16 := n2
  have m3 : m < 16 := m2
  have Hn := Lib.hid hn0
  have Hm := Lib.hid hm0
  clear hn hm hn0 hm0 n2 m2 ht0
  have n4 : n ≤ 15 := by omega
  have m4 : m ≤ 15 := by omega
  have Hset := Lib.hid hset
  clear hset
  go_wp2_with ((with_reducible refine rw_list ?_); (first | ((with_reducible apply wpList_load_cell); (case ho => with_reducible rfl); (case hgd => with_reducible rfl); (case hx => rfl); (case hu => first | exact Try.underlying26 | exact Try.underlying39 | exact Try.underlying40 | exact Try.underlying24 | exact Try.underlying3); (case hd => rfl)) | ((with_reducible apply wpList_load_row); (case ho => with_reducible rfl); (case hgd => with_reducible rfl); (case hx => rfl); (case hu => first | exact Try.underlying26 | exact Try.underlying39 | exact Try.underlying40 | exact Try.underlying24 | exact Try.underlying3); (case hd => rfl)) | ((with_reducible apply wpList_store_row); (case ho => with_reducible rfl); (case hgd => with_reducible rfl); (case hx => rfl); (case hy => rfl)) | ((with_reducible apply wpList_store_cell); (case ho => with_reducible rfl); (case hgd => with_reducible rfl); (case hx => rfl); (case hy => first | exact ev_const | exact ev_tmp rfl); (case h1 => rfl))); (case hg => exact (by with_reducible repeat (first | assumption | (refine rw_new ?e_; case e_ => first | rfl | (simp; done) | (simp; omega)) | apply rw_self | (apply rw_other; case hn => first | omega | (simp; omega)) | apply rw_alloc | apply rw_drew | apply rw_drewN))); (try case hv => rfl); (try case hi => kernel_rfl); (try case hold => rfl); (try case h1 => kernel_rfl); (try case hlt => rfl); (try case hcs => ((try simp only [List.setIfInBounds_toArray, List.set_cons_succ, List.set_cons_zero]); rfl)))
  go_loopw [15] (fun v wr => ∃ i : Nat, i ≤ 4 ∧ v = .int .i64 i ∧ RowKit.Below w.heap.size w wr ∧ wr.heap[w2.heap.size]? = some (.cells #[.int .i64 W, .int .i64 H, .string T] 26 (0, 0)) ∧ wr.heap[w3.heap.size]? = some (.cells #[.int .i64 a, .int .i64 b, .int .i64 c, .int .i64 d] 39 (0, 0))) (fun v _ => 4 - (intOf v).toNat)
  case atStart => exact ⟨0, Nat.zero_le _, rfl, hB_w5, ht, hi⟩
  case round =>
    clear ht hi hB_w5
    obtain ⟨i, hi4, rfl, hB, ht, hi⟩ := hrel
    by_cases hlt : i < 4
    · rcases four i hlt with rfl | rfl | rfl | rfl
      · obtain ⟨i0, i1, i2, i3⟩ := cel4 hi
        obtain ⟨t0, t1, t2⟩ := cel3 ht
        have hli := rw_lt hi
        have hlt := rw_lt ht
        have hSk := fun w => Hset.out a w ha
        obtain ⟨f0, f1, f2, f3⟩ := Hn.out
        obtain ⟨g0, g1, g2, g3⟩ := Hm.out
        have fk := f0
        have gk := g3
        clear f0 f1 f2 f3 g0 g1 g2 g3
        by_cases hg : t < a
        · rw [decide_eq_true hg] at hSk
          rw [if_pos hg] at fk gk
          clear hg
          go_wp2_with fail
          refine wp_region_ord (.s 0 .p (.s 1 .l (.s 2 .p (.s 3 .p (.s 4 .l (.s 5 .p (.s 6 .p (.s 7 .p (.s 8 .p (.s 9 .e (.s 10 .p (.s 11 .p (.s 12 .p (.s 13 .p (.s 14 .p (.s 15 .p (.s 16 .p (.s 17 .p (.s 18 .p (.s 19 .p (.s 20 .p .done))))))))))))))))))))) (Held wr []) (by kernel_rfl) (by kernel_rfl) (fun _ _ _ _ _ h => h) (Held.refl _ _) ?_
          (apply wpOrd_p2 rfl rfl rfl rfl rfl; (intro w' K hK; (first | go_big_move | go_big_op | go_wp2_with fail); exact hK))
          (apply wpOrd_l2 rfl rfl rfl rfl rfl; (intro w' K hS' hK; (have hr' := hS'.cell; simp at hr'; (first | go_big_op | go_wp2_with fail); exact hK)); (first | assumption | exact Held.refl _ _ | exact Held.of_below (by repeat (first | with_reducible exact Below.refl _ _ | with_reducible assumption | ((with_reducible refine Below.alloc ?_ ?hb_ _); (case hb_ => first | omega | (simp; done) | (simp; omega))) | ((with_reducible refine Below.setCell ?_ ?hb_ _); (case hb_ => first | omega | (simp; done) | (simp; omega))) | with_reducible refine Below.drew ?_ | with_reducible refine below_drewN ?_ _))))
          (apply wpOrd_p2 rfl rfl rfl rfl rfl; (intro w' K hK; (first | go_big_move | go_big_op | go_wp2_with fail); exact hK))
          (apply wpOrd_p2 rfl rfl rfl rfl rfl; (intro w' K hK; (first | go_big_move | go_big_op | go_wp2_with fail); exact hK))
          (apply wpOrd_l2 rfl rfl rfl rfl rfl; (intro w' K hS' hK; (have hr' := hS'.cell; simp at hr'; (first | go_big_op | go_wp2_with fail); exact hK)); (first | assumption | exact Held.refl _ _ | exact Held.of_below (by repeat (first | with_reducible exact Below.refl _ _ | with_reducible assumption | ((with_reducible refine Below.alloc ?_ ?hb_ _); (case hb_ => first | omega | (simp; done) | (simp; omega))) | ((with_reducible refine Below.setCell ?_ ?hb_ _); (case hb_ => first | omega | (simp; done) | (simp; omega))) | with_reducible refine Below.drew ?_ | with_reducible refine below_drewN ?_ _))))
          (apply wpOrd_p2 rfl rfl rfl rfl rfl; (intro w' K hK; (first | go_big_move | go_big_op | go_wp2_with fail); exact hK))
          (apply wpOrd_p2 rfl rfl rfl rfl rfl; (intro w' K hK; (first | go_big_move | go_big_op | go_wp2_with fail); exact hK))
          (apply wpOrd_p2 rfl rfl rfl rfl rfl; (intro w' K hK; (first | go_big_move | go_big_op | go_wp2_with fail); exact hK))
          (apply wpOrd_p2 rfl rfl rfl rfl rfl; (intro w' K hK; (first | go_big_move | go_big_op | go_wp2_with fail); exact hK))
          (refine wpOrd_e1 rfl rfl (fun K hK => ?_)); (first | go_big_op | go_wp2_with fail)
          refine (hSk _).mono ?_; rintro e w9 ⟨rfl, hb9⟩; have hH9 := Held.then (X := []) (Held.drew (Held.refl wr [])) (by simp) hb9; have hB_9 : RowKit.Below w.heap.size w w9 := below_then (Below.drew hB) (by have := hB.size; simp; omega) hb9; have ht := rw_below (k := w2.heap.size) hb9 (by with_reducible repeat (first | assumption | (refine rw_new ?e_; case e_ => first | rfl | (simp; done) | (simp; omega)) | apply rw_self | (apply rw_other; case hn => first | omega | (simp; omega)) | apply rw_alloc | apply rw_drew | apply rw_drewN)); have hi := rw_below (k := w3.heap.size) hb9 (by with_reducible repeat (first | assumption | (refine rw_new ?e_; case e_ => first | rfl | (simp; done) | (simp; omega)) | apply rw_self | (apply rw_other; case hn => first | omega | (simp; omega)) | apply rw_alloc | apply rw_drew | apply rw_drewN)); clear hb9; refine hK _ _ hH9 ?_; clear hK K
          (apply wpOrd_p2 rfl rfl rfl rfl rfl; (intro w' K hK; (first | go_big_move | go_big_op | go_wp2_with fail); exact hK))
          (apply wpOrd_p2 rfl rfl rfl rfl rfl; (intro w' K hK; (first | go_big_move | go_big_op | go_wp2_with fail); exact hK))
          (apply wpOrd_p2 rfl rfl rfl rfl rfl; (intro w' K hK; (first | go_big_move | go_big_op | go_wp2_with fail); exact hK))
          (apply wpOrd_p2 rfl rfl rfl rfl rfl; (intro w' K hK; (first | go_big_move | go_big_op | go_wp2_with fail); exact hK))
          (apply wpOrd_p2 rfl rfl rfl rfl rfl; (intro w' K hK; (first | go_big_move | go_big_op | go_wp2_with fail); exact hK))
          (apply wpOrd_p2 rfl rfl rfl rfl rfl; (intro w' K hK; (first | go_big_move | go_big_op | go_wp2_with fail); exact hK))
          (apply wpOrd_p2 rfl rfl rfl rfl rfl; (intro w' K hK; (first | go_big_move | go_big_op | go_wp2_with fail); exact hK))
          (apply wpOrd_p2 rfl rfl rfl rfl rfl; (intro w' K hK; (first | go_big_move | go_big_op | go_wp2_with fail); exact hK))
          (apply wpOrd_p2 rfl rfl rfl rfl rfl; (intro w' K hK; (first | go_big_move | go_big_op | go_wp2_with fail); exact hK))
          (apply wpOrd_p2 rfl rfl rfl rfl rfl; (intro w' K hK; (first | go_big_move | go_big_op | go_wp2_with fail); exact hK))
          (apply wpOrd_p2 rfl rfl rfl rfl rfl; (intro w' K hK; (first | go_big_move | go_big_op | go_wp2_with fail); exact hK))
          refine wpOrd_nil ?_
          skip
          go_wp2_with fail
          go_roundw
          case rel => exact ⟨1, by omega, by go_num, hB_9, ht, hi⟩
          case measure => simp [intOf]
        · rw [decide_eq_false hg] at hSk
          rw [if_neg hg] at fk gk
          clear hg
          go_wp2_with fail
          refine wp_region_ord (.s 0 .p (.s 1 .l (.s 2 .p (.s 3 .p (.s 4 .l (.s 5 .p (.s 6 .p (.s 7 .p (.s 8 .p (.s 9 .e (.s 10 .p (.s 11 .p (.s 12 .p (.s 13 .p (.s 14 .p (.s 15 .p (.s 16 .p (.s 17 .p (.s 18 .p (.s 19 .p (.s 20 .p .done))))))))))))))))))))) (Held wr []) (by kernel_rfl) (by kernel_rfl) (fun _ _ _ _ _ h => h) (Held.refl _ _) ?_
          (apply wpOrd_p2 rfl rfl rfl rfl rfl; (intro w' K hK; (first | go_big_move | go_big_op | go_wp2_with fail); exact hK))
          (apply wpOrd_l2 rfl rfl rfl rfl rfl; (intro w' K hS' hK; (have hr' := hS'.cell; simp at hr'; (first | go_big_op | go_wp2_with fail); exact hK)); (first | assumption | exact Held.refl _ _ | exact Held.of_below (by repeat (first | with_reducible exact Below.refl _ _ | with_reducible assumption | ((with_reducible refine Below.alloc ?_ ?hb_ _); (case hb_ => first | omega | (simp; done) | (simp; omega))) | ((with_reducible refine Below.setCell ?_ ?hb_ _); (case hb_ => first | omega | (simp; done) | (simp; omega))) | with_reducible refine Below.drew ?_ | with_reducible refine below_drewN ?_ _))))
          (apply wpOrd_p2 rfl rfl rfl rfl rfl; (intro w' K hK; (first | go_big_move | go_big_op | go_wp2_with fail); exact hK))
          (apply wpOrd_p2 rfl rfl rfl rfl rfl; (intro w' K hK; (first | go_big_move | go_big_op | go_wp2_with fail); exact hK))
          (apply wpOrd_l2 rfl rfl rfl rfl rfl; (intro w' K hS' hK; (have hr' := hS'.cell; simp at hr'; (first | go_big_op | go_wp2_with fail); exact hK)); (first | assumption | exact Held.refl _ _ | exact Held.of_below (by repeat (first | with_reducible exact Below.refl _ _ | with_reducible assumption | ((with_reducible refine Below.alloc ?_ ?hb_ _); (case hb_ => first | omega | (simp; done) | (simp; omega))) | ((with_reducible refine Below.setCell ?_ ?hb_ _); (case hb_ => first | omega | (simp; done) | (simp; omega))) | with_reducible refine Below.drew ?_ | with_reducible refine below_drewN ?_ _))))
          (apply wpOrd_p2 rfl rfl rfl rfl rfl; (intro w' K hK; (first | go_big_move | go_big_op | go_wp2_with fail); exact hK))
          (apply wpOrd_p2 rfl rfl rfl rfl rfl; (intro w' K hK; (first | go_big_move | go_big_op | go_wp2_with fail); exact hK))
          (apply wpOrd_p2 rfl rfl rfl rfl rfl; (intro w' K hK; (first | go_big_move | go_big_op | go_wp2_with fail); exact hK))
          (apply wpOrd_p2 rfl rfl rfl rfl rfl; (intro w' K hK; (first | go_big_move | go_big_op | go_wp2_with fail); exact hK))
          (refine wpOrd_e1 rfl rfl (fun K hK => ?_)); (first | go_big_op | go_wp2_with fail)
          refine (hSk _).mono ?_; rintro e w9 ⟨rfl, hb9⟩; have hH9 := Held.then (X := []) (Held.drew (Held.refl wr [])) (by simp) hb9; have hB_9 : RowKit.Below w.heap.size w w9 := below_then (Below.drew hB) (by have := hB.size; simp; omega) hb9; have ht := rw_below (k := w2.heap.size) hb9 (by with_reducible repeat (first | assumption | (refine rw_new ?e_; case e_ => first | rfl | (simp; done) | (simp; omega)) | apply rw_self | (apply rw_other; case hn => first | omega | (simp; omega)) | apply rw_alloc | apply rw_drew | apply rw_drewN)); have hi := rw_below (k := w3.heap.size) hb9 (by with_reducible repeat (first | assumption | (refine rw_new ?e_; case e_ => first | rfl | (simp; done) | (simp; omega)) | apply rw_self | (apply rw_other; case hn => first | omega | (simp; omega)) | apply rw_alloc | apply rw_drew | apply rw_drewN)); clear hb9; refine hK _ _ hH9 ?_; clear hK K
          (apply wpOrd_p2 rfl rfl rfl rfl rfl; (intro w' K hK; (first | go_big_move | go_big_op | go_wp2_with fail); exact hK))
          (apply wpOrd_p2 rfl rfl rfl rfl rfl; (intro w' K hK; (first | go_big_move | go_big_op | go_wp2_with fail); exact hK))
          (apply wpOrd_p2 rfl rfl rfl rfl rfl; (intro w' K hK; (first | go_big_move | go_big_op | go_wp2_with fail); exact hK))
          (apply wpOrd_p2 rfl rfl rfl rfl rfl; (intro w' K hK; (first | go_big_move | go_big_op | go_wp2_with fail); exact hK))
          (apply wpOrd_p2 rfl rfl rfl rfl rfl; (intro w' K hK; (first | go_big_move | go_big_op | go_wp2_with fail); exact hK))
          (apply wpOrd_p2 rfl rfl rfl rfl rfl; (intro w' K hK; (first | go_big_move | go_big_op | go_wp2_with fail); exact hK))
          (apply wpOrd_p2 rfl rfl rfl rfl rfl; (intro w' K hK; (first | go_big_move | go_big_op | go_wp2_with fail); exact hK))
          (apply wpOrd_p2 rfl rfl rfl rfl rfl; (intro w' K hK; (first | go_big_move | go_big_op | go_wp2_with fail); exact hK))
          (apply wpOrd_p2 rfl rfl rfl rfl rfl; (intro w' K hK; (first | go_big_move | go_big_op | go_wp2_with fail); exact hK))
          (apply wpOrd_p2 rfl rfl rfl rfl rfl; (intro w' K hK; (first | go_big_move | go_big_op | go_wp2_with fail); exact hK))
          (apply wpOrd_p2 rfl rfl rfl rfl rfl; (intro w' K hK; (first | go_big_move | go_big_op | go_wp2_with fail); exact hK))
          refine wpOrd_nil ?_
          skip
          go_wp2_with fail
          go_roundw
          case rel => exact ⟨1, by omega, by go_num, hB_9, ht, hi⟩
          case measure => simp [intOf]
      · obtain ⟨i0, i1, i2, i3⟩ := cel4 hi
        obtain ⟨t0, t1, t2⟩ := cel3 ht
        have hli := rw_lt hi
        have hlt := rw_lt ht
        have hSk := fun w => Hset.out b w hb
        obtain ⟨f0, f1, f2, f3⟩ := Hn.out
        obtain ⟨g0, g1, g2, g3⟩ := Hm.out
        have fk := f1
        have gk := g2
        clear f0 f1 f2 f3 g0 g1 g2 g3
        by_cases hg : t < b
        · rw [decide_eq_true hg] at hSk
          rw [if_pos hg] at fk gk
          clear hg
          go_wp2_with fail
          refine wp_region_ord (.s 0 .p (.s 1 .l (.s 2 .p (.s 3 .p (.s 4 .l (.s 5 .p (.s 6 .p (.s 7 .p (.s 8 .p (.s 9 .e (.s 10 .p (.s 11 .p (.s 12 .p (.s 13 .p (.s 14 .p (.s 15 .p (.s 16 .p (.s 17 .p (.s 18 .p (.s 19 .p (.s 20 .p .done))))))))))))))))))))) (Held wr []) (by kernel_rfl) (by kernel_rfl) (fun _ _ _ _ _ h => h) (Held.refl _ _) ?_
          (apply wpOrd_p2 rfl rfl rfl rfl rfl; (intro w' K hK; (first | go_big_move | go_big_op | go_wp2_with fail); exact hK))
          (apply wpOrd_l2 rfl rfl rfl rfl rfl; (intro w' K hS' hK; (have hr' := hS'.cell; simp at hr'; (first | go_big_op | go_wp2_with fail); exact hK)); (first | assumption | exact Held.refl _ _ | exact Held.of_below (by repeat (first | with_reducible exact Below.refl _ _ | with_reducible assumption | ((with_reducible refine Below.alloc ?_ ?hb_ _); (case hb_ => first | omega | (simp; done) | (simp; omega))) | ((with_reducible refine Below.setCell ?_ ?hb_ _); (case hb_ => first | omega | (simp; done) | (simp; omega))) | with_reducible refine Below.drew ?_ | with_reducible refine below_drewN ?_ _))))
          (apply wpOrd_p2 rfl rfl rfl rfl rfl; (intro w' K hK; (first | go_big_move | go_big_op | go_wp2_with fail); exact hK))
          (apply wpOrd_p2 rfl rfl rfl rfl rfl; (intro w' K hK; (first | go_big_move | go_big_op | go_wp2_with fail); exact hK))
          (apply wpOrd_l2 rfl rfl rfl rfl rfl; (intro w' K hS' hK; (have hr' := hS'.cell; simp at hr'; (first | go_big_op | go_wp2_with fail); exact hK)); (first | assumption | exact Held.refl _ _ | exact Held.of_below (by repeat (first | with_reducible exact Below.refl _ _ | with_reducible assumption | ((with_reducible refine Below.alloc ?_ ?hb_ _); (case hb_ => first | omega | (simp; done) | (simp; omega))) | ((with_reducible refine Below.setCell ?_ ?hb_ _); (case hb_ => first | omega | (simp; done) | (simp; omega))) | with_reducible refine Below.drew ?_ | with_reducible refine below_drewN ?_ _))))
          (apply wpOrd_p2 rfl rfl rfl rfl rfl; (intro w' K hK; (first | go_big_move | go_big_op | go_wp2_with fail); exact hK))
          (apply wpOrd_p2 rfl rfl rfl rfl rfl; (intro w' K hK; (first | go_big_move | go_big_op | go_wp2_with fail); exact hK))
          (apply wpOrd_p2 rfl rfl rfl rfl rfl; (intro w' K hK; (first | go_big_move | go_big_op | go_wp2_with fail); exact hK))
          (apply wpOrd_p2 rfl rfl rfl rfl rfl; (intro w' K hK; (first | go_big_move | go_big_op | go_wp2_with fail); exact hK))
          (refine wpOrd_e1 rfl rfl (fun K hK => ?_)); (first | go_big_op | go_wp2_with fail)
          refine (hSk _).mono ?_; rintro e w9 ⟨rfl, hb9⟩; have hH9 := Held.then (X := []) (Held.drew (Held.refl wr [])) (by simp) hb9; have hB_9 : RowKit.Below w.heap.size w w9 := below_then (Below.drew hB) (by have := hB.size; simp; omega) hb9; have ht := rw_below (k := w2.heap.size) hb9 (by with_reducible repeat (first | assumption | (refine rw_new ?e_; case e_ => first | rfl | (simp; done) | (simp; omega)) | apply rw_self | (apply rw_other; case hn => first | omega | (simp; omega)) | apply rw_alloc | apply rw_drew | apply rw_drewN)); have hi := rw_below (k := w3.heap.size) hb9 (by with_reducible repeat (first | assumption | (refine rw_new ?e_; case e_ => first | rfl | (simp; done) | (simp; omega)) | apply rw_self | (apply rw_other; case hn => first | omega | (simp; omega)) | apply rw_alloc | apply rw_drew | apply rw_drewN)); clear hb9; refine hK _ _ hH9 ?_; clear hK K
          (apply wpOrd_p2 rfl rfl rfl rfl rfl; (intro w' K hK; (first | go_big_move | go_big_op | go_wp2_with fail); exact hK))
          (apply wpOrd_p2 rfl rfl rfl rfl rfl; (intro w' K hK; (first | go_big_move | go_big_op | go_wp2_with fail); exact hK))
          (apply wpOrd_p2 rfl rfl rfl rfl rfl; (intro w' K hK; (first | go_big_move | go_big_op | go_wp2_with fail); exact hK))
          (apply wpOrd_p2 rfl rfl rfl rfl rfl; (intro w' K hK; (first | go_big_move | go_big_op | go_wp2_with fail); exact hK))
          (apply wpOrd_p2 rfl rfl rfl rfl rfl; (intro w' K hK; (first | go_big_move | go_big_op | go_wp2_with fail); exact hK))
          (apply wpOrd_p2 rfl rfl rfl rfl rfl; (intro w' K hK; (first | go_big_move | go_big_op | go_wp2_with fail); exact hK))
          (apply wpOrd_p2 rfl rfl rfl rfl rfl; (intro w' K hK; (first | go_big_move | go_big_op | go_wp2_with fail); exact hK))
          (apply wpOrd_p2 rfl rfl rfl rfl rfl; (intro w' K hK; (first | go_big_move | go_big_op | go_wp2_with fail); exact hK))
          (apply wpOrd_p2 rfl rfl rfl rfl rfl; (intro w' K hK; (first | go_big_move | go_big_op | go_wp2_with fail); exact hK))
          (apply wpOrd_p2 rfl rfl rfl rfl rfl; (intro w' K hK; (first | go_big_move | go_big_op | go_wp2_with fail); exact hK))
          (apply wpOrd_p2 rfl rfl rfl rfl rfl; (intro w' K hK; (first | go_big_move | go_big_op | go_wp2_with fail); exact hK))
          refine wpOrd_nil ?_
          skip
          go_wp2_with fail
          go_roundw
          case rel => exact ⟨2, by omega, by go_num, hB_9, ht, hi⟩
          case measure => simp [intOf]
        · rw [decide_eq_false hg] at hSk
          rw [if_neg hg] at fk gk
          clear hg
          go_wp2_with fail
          refine wp_region_ord (.s 0 .p (.s 1 .l (.s 2 .p (.s 3 .p (.s 4 .l (.s 5 .p (.s 6 .p (.s 7 .p (.s 8 .p (.s 9 .e (.s 10 .p (.s 11 .p (.s 12 .p (.s 13 .p (.s 14 .p (.s 15 .p (.s 16 .p (.s 17 .p (.s 18 .p (.s 19 .p (.s 20 .p .done))))))))))))))))))))) (Held wr []) (by kernel_rfl) (by kernel_rfl) (fun _ _ _ _ _ h => h) (Held.refl _ _) ?_
          (apply wpOrd_p2 rfl rfl rfl rfl rfl; (intro w' K hK; (first | go_big_move | go_big_op | go_wp2_with fail); exact hK))
          (apply wpOrd_l2 rfl rfl rfl rfl rfl; (intro w' K hS' hK; (have hr' := hS'.cell; simp at hr'; (first | go_big_op | go_wp2_with fail); exact hK)); (first | assumption | exact Held.refl _ _ | exact Held.of_below (by repeat (first | with_reducible exact Below.refl _ _ | with_reducible assumption | ((with_reducible refine Below.alloc ?_ ?hb_ _); (case hb_ => first | omega | (simp; done) | (simp; omega))) | ((with_reducible refine Below.setCell ?_ ?hb_ _); (case hb_ => first | omega | (simp; done) | (simp; omega))) | with_reducible refine Below.drew ?_ | with_reducible refine below_drewN ?_ _))))
          (apply wpOrd_p2 rfl rfl rfl rfl rfl; (intro w' K hK; (first | go_big_move | go_big_op | go_wp2_with fail); exact hK))
          (apply wpOrd_p2 rfl rfl rfl rfl rfl; (intro w' K hK; (first | go_big_move | go_big_op | go_wp2_with fail); exact hK))
          (apply wpOrd_l2 rfl rfl rfl rfl rfl; (intro w' K hS' hK; (have hr' := hS'.cell; simp at hr'; (first | go_big_op | go_wp2_with fail); exact hK)); (first | assumption | exact Held.refl _ _ | exact Held.of_below (by repeat (first | with_reducible exact Below.refl _ _ | with_reducible assumption | ((with_reducible refine Below.alloc ?_ ?hb_ _); (case hb_ => first | omega | (simp; done) | (simp; omega))) | ((with_reducible refine Below.setCell ?_ ?hb_ _); (case hb_ => first | omega | (simp; done) | (simp; omega))) | with_reducible refine Below.drew ?_ | with_reducible refine below_drewN ?_ _))))
          (apply wpOrd_p2 rfl rfl rfl rfl rfl; (intro w' K hK; (first | go_big_move | go_big_op | go_wp2_with fail); exact hK))
          (apply wpOrd_p2 rfl rfl rfl rfl rfl; (intro w' K hK; (first | go_big_move | go_big_op | go_wp2_with fail); exact hK))
          (apply wpOrd_p2 rfl rfl rfl rfl rfl; (intro w' K hK; (first | go_big_move | go_big_op | go_wp2_with fail); exact hK))
          (apply wpOrd_p2 rfl rfl rfl rfl rfl; (intro w' K hK; (first | go_big_move | go_big_op | go_wp2_with fail); exact hK))
          (refine wpOrd_e1 rfl rfl (fun K hK => ?_)); (first | go_big_op | go_wp2_with fail)
          refine (hSk _).mono ?_; rintro e w9 ⟨rfl, hb9⟩; have hH9 := Held.then (X := []) (Held.drew (Held.refl wr [])) (by simp) hb9; have hB_9 : RowKit.Below w.heap.size w w9 := below_then (Below.drew hB) (by have := hB.size; simp; omega) hb9; have ht := rw_below (k := w2.heap.size) hb9 (by with_reducible repeat (first | assumption | (refine rw_new ?e_; case e_ => first | rfl | (simp; done) | (simp; omega)) | apply rw_self | (apply rw_other; case hn => first | omega | (simp; omega)) | apply rw_alloc | apply rw_drew | apply rw_drewN)); have hi := rw_below (k := w3.heap.size) hb9 (by with_reducible repeat (first | assumption | (refine rw_new ?e_; case e_ => first | rfl | (simp; done) | (simp; omega)) | apply rw_self | (apply rw_other; case hn => first | omega | (simp; omega)) | apply rw_alloc | apply rw_drew | apply rw_drewN)); clear hb9; refine hK _ _ hH9 ?_; clear hK K
          (apply wpOrd_p2 rfl rfl rfl rfl rfl; (intro w' K hK; (first | go_big_move | go_big_op | go_wp2_with fail); exact hK))
          (apply wpOrd_p2 rfl rfl rfl rfl rfl; (intro w' K hK; (first | go_big_move | go_big_op | go_wp2_with fail); exact hK))
          (apply wpOrd_p2 rfl rfl rfl rfl rfl; (intro w' K hK; (first | go_big_move | go_big_op | go_wp2_with fail); exact hK))
          (apply wpOrd_p2 rfl rfl rfl rfl rfl; (intro w' K hK; (first | go_big_move | go_big_op | go_wp2_with fail); exact hK))
          (apply wpOrd_p2 rfl rfl rfl rfl rfl; (intro w' K hK; (first | go_big_move | go_big_op | go_wp2_with fail); exact hK))
          (apply wpOrd_p2 rfl rfl rfl rfl rfl; (intro w' K hK; (first | go_big_move | go_big_op | go_wp2_with fail); exact hK))
          (apply wpOrd_p2 rfl rfl rfl rfl rfl; (intro w' K hK; (first | go_big_move | go_big_op | go_wp2_with fail); exact hK))
          (apply wpOrd_p2 rfl rfl rfl rfl rfl; (intro w' K hK; (first | go_big_move | go_big_op | go_wp2_with fail); exact hK))
          (apply wpOrd_p2 rfl rfl rfl rfl rfl; (intro w' K hK; (first | go_big_move | go_big_op | go_wp2_with fail); exact hK))
          (apply wpOrd_p2 rfl rfl rfl rfl rfl; (intro w' K hK; (first | go_big_move | go_big_op | go_wp2_with fail); exact hK))
          (apply wpOrd_p2 rfl rfl rfl rfl rfl; (intro w' K hK; (first | go_big_move | go_big_op | go_wp2_with fail); exact hK))
          refine wpOrd_nil ?_
          skip
          go_wp2_with fail
          go_roundw
          case rel => exact ⟨2, by omega, by go_num, hB_9, ht, hi⟩
          case measure => simp [intOf]
      · obtain ⟨i0, i1, i2, i3⟩ := cel4 hi
        obtain ⟨t0, t1, t2⟩ := cel3 ht
        have hli := rw_lt hi
        have hlt := rw_lt ht
        have hSk := fun w => Hset.out c w hc
        obtain ⟨f0, f1, f2, f3⟩ := Hn.out
        obtain ⟨g0, g1, g2, g3⟩ := Hm.out
        have fk := f2
        have gk := g1
        clear f0 f1 f2 f3 g0 g1 g2 g3
        by_cases hg : t < c
        · rw [decide_eq_true hg] at hSk
          rw [if_pos hg] at fk gk
          clear hg
          go_wp2_with fail
          refine wp_region_ord (.s 0 .p (.s 1 .l (.s 2 .p (.s 3 .p (.s 4 .l (.s 5 .p (.s 6 .p (.s 7 .p (.s 8 .p (.s 9 .e (.s 10 .p (.s 11 .p (.s 12 .p (.s 13 .p (.s 14 .p (.s 15 .p (.s 16 .p (.s 17 .p (.s 18 .p (.s 19 .p (.s 20 .p .done))))))))))))))))))))) (Held wr []) (by kernel_rfl) (by kernel_rfl) (fun _ _ _ _ _ h => h) (Held.refl _ _) ?_
          (apply wpOrd_p2 rfl rfl rfl rfl rfl; (intro w' K hK; (first | go_big_move | go_big_op | go_wp2_with fail); exact hK))
          (apply wpOrd_l2 rfl rfl rfl rfl rfl; (intro w' K hS' hK; (have hr' := hS'.cell; simp at hr'; (first | go_big_op | go_wp2_with fail); exact hK)); (first | assumption | exact Held.refl _ _ | exact Held.of_below (by repeat (first | with_reducible exact Below.refl _ _ | with_reducible assumption | ((with_reducible refine Below.alloc ?_ ?hb_ _); (case hb_ => first | omega | (simp; done) | (simp; omega))) | ((with_reducible refine Below.setCell ?_ ?hb_ _); (case hb_ => first | omega | (simp; done) | (simp; omega))) | with_reducible refine Below.drew ?_ | with_reducible refine below_drewN ?_ _))))
          (apply wpOrd_p2 rfl rfl rfl rfl rfl; (intro w' K hK; (first | go_big_move | go_big_op | go_wp2_with fail); exact hK))
          (apply wpOrd_p2 rfl rfl rfl rfl rfl; (intro w' K hK; (first | go_big_move | go_big_op | go_wp2_with fail); exact hK))
          (apply wpOrd_l2 rfl rfl rfl rfl rfl; (intro w' K hS' hK; (have hr' := hS'.cell; simp at hr'; (first | go_big_op | go_wp2_with fail); exact hK)); (first | assumption | exact Held.refl _ _ | exact Held.of_below (by repeat (first | with_reducible exact Below.refl _ _ | with_reducible assumption | ((with_reducible refine Below.alloc ?_ ?hb_ _); (case hb_ => first | omega | (simp; done) | (simp; omega))) | ((with_reducible refine Below.setCell ?_ ?hb_ _); (case hb_ => first | omega | (simp; done) | (simp; omega))) | with_reducible refine Below.drew ?_ | with_reducible refine below_drewN ?_ _))))
          (apply wpOrd_p2 rfl rfl rfl rfl rfl; (intro w' K hK; (first | go_big_move | go_big_op | go_wp2_with fail); exact hK))
          (apply wpOrd_p2 rfl rfl rfl rfl rfl; (intro w' K hK; (first | go_big_move | go_big_op | go_wp2_with fail); exact hK))
          (apply wpOrd_p2 rfl rfl rfl rfl rfl; (intro w' K hK; (first | go_big_move | go_big_op | go_wp2_with fail); exact hK))
          (apply wpOrd_p2 rfl rfl rfl rfl rfl; (intro w' K hK; (first | go_big_move | go_big_op | go_wp2_with fail); exact hK))
          (refine wpOrd_e1 rfl rfl (fun K hK => ?_)); (first | go_big_op | go_wp2_with fail)
          refine (hSk _).mono ?_; rintro e w9 ⟨rfl, hb9⟩; have hH9 := Held.then (X := []) (Held.drew (Held.refl wr [])) (by simp) hb9; have hB_9 : RowKit.Below w.heap.size w w9 := below_then (Below.drew hB) (by have := hB.size; simp; omega) hb9; have ht := rw_below (k := w2.heap.size) hb9 (by with_reducible repeat (first | assumption | (refine rw_new ?e_; case e_ => first | rfl | (simp; done) | (simp; omega)) | apply rw_self | (apply rw_other; case hn => first | omega | (simp; omega)) | apply rw_alloc | apply rw_drew | apply rw_drewN)); have hi := rw_below (k := w3.heap.size) hb9 (by with_reducible repeat (first | assumption | (refine rw_new ?e_; case e_ => first | rfl | (simp; done) | (simp; omega)) | apply rw_self | (apply rw_other; case hn => first | omega | (simp; omega)) | apply rw_alloc | apply rw_drew | apply rw_drewN)); clear hb9; refine hK _ _ hH9 ?_; clear hK K
          (apply wpOrd_p2 rfl rfl rfl rfl rfl; (intro w' K hK; (first | go_big_move | go_big_op | go_wp2_with fail); exact hK))
          (apply wpOrd_p2 rfl rfl rfl rfl rfl; (intro w' K hK; (first | go_big_move | go_big_op | go_wp2_with fail); exact hK))
          (apply wpOrd_p2 rfl rfl rfl rfl rfl; (intro w' K hK; (first | go_big_move | go_big_op | go_wp2_with fail); exact hK))
          (apply wpOrd_p2 rfl rfl rfl rfl rfl; (intro w' K hK; (first | go_big_move | go_big_op | go_wp2_with fail); exact hK))
          (apply wpOrd_p2 rfl rfl rfl rfl rfl; (intro w' K hK; (first | go_big_move | go_big_op | go_wp2_with fail); exact hK))
          (apply wpOrd_p2 rfl rfl rfl rfl rfl; (intro w' K hK; (first | go_big_move | go_big_op | go_wp2_with fail); exact hK))
          (apply wpOrd_p2 rfl rfl rfl rfl rfl; (intro w' K hK; (first | go_big_move | go_big_op | go_wp2_with fail); exact hK))
          (apply wpOrd_p2 rfl rfl rfl rfl rfl; (intro w' K hK; (first | go_big_move | go_big_op | go_wp2_with fail); exact hK))
          (apply wpOrd_p2 rfl rfl rfl rfl rfl; (intro w' K hK; (first | go_big_move | go_big_op | go_wp2_with fail); exact hK))
          (apply wpOrd_p2 rfl rfl rfl rfl rfl; (intro w' K hK; (first | go_big_move | go_big_op | go_wp2_with fail); exact hK))
          (apply wpOrd_p2 rfl rfl rfl rfl rfl; (intro w' K hK; (first | go_big_move | go_big_op | go_wp2_with fail); exact hK))
          refine wpOrd_nil ?_
          skip
          go_wp2_with fail
          go_roundw
          case rel => exact ⟨3, by omega, by go_num, hB_9, ht, hi⟩
          case measure => simp [intOf]
        · rw [decide_eq_false hg] at hSk
          rw [if_neg hg] at fk gk
          clear hg
          go_wp2_with fail
          refine wp_region_ord (.s 0 .p (.s 1 .l (.s 2 .p (.s 3 .p (.s 4 .l (.s 5 .p (.s 6 .p (.s 7 .p (.s 8 .p (.s 9 .e (.s 10 .p (.s 11 .p (.s 12 .p (.s 13 .p (.s 14 .p (.s 15 .p (.s 16 .p (.s 17 .p (.s 18 .p (.s 19 .p (.s 20 .p .done))))))))))))))))))))) (Held wr []) (by kernel_rfl) (by kernel_rfl) (fun _ _ _ _ _ h => h) (Held.refl _ _) ?_
          (apply wpOrd_p2 rfl rfl rfl rfl rfl; (intro w' K hK; (first | go_big_move | go_big_op | go_wp2_with fail); exact hK))
          (apply wpOrd_l2 rfl rfl rfl rfl rfl; (intro w' K hS' hK; (have hr' := hS'.cell; simp at hr'; (first | go_big_op | go_wp2_with fail); exact hK)); (first | assumption | exact Held.refl _ _ | exact Held.of_below (by repeat (first | with_reducible exact Below.refl _ _ | with_reducible assumption | ((with_reducible refine Below.alloc ?_ ?hb_ _); (case hb_ => first | omega | (simp; done) | (simp; omega))) | ((with_reducible refine Below.setCell ?_ ?hb_ _); (case hb_ => first | omega | (simp; done) | (simp; omega))) | with_reducible refine Below.drew ?_ | with_reducible refine below_drewN ?_ _))))
          (apply wpOrd_p2 rfl rfl rfl rfl rfl; (intro w' K hK; (first | go_big_move | go_big_op | go_wp2_with fail); exact hK))
          (apply wpOrd_p2 rfl rfl rfl rfl rfl; (intro w' K hK; (first | go_big_move | go_big_op | go_wp2_with fail); exact hK))
          (apply wpOrd_l2 rfl rfl rfl rfl rfl; (intro w' K hS' hK; (have hr' := hS'.cell; simp at hr'; (first | go_big_op | go_wp2_with fail); exact hK)); (first | assumption | exact Held.refl _ _ | exact Held.of_below (by repeat (first | with_reducible exact Below.refl _ _ | with_reducible assumption | ((with_reducible refine Below.alloc ?_ ?hb_ _); (case hb_ => first | omega | (simp; done) | (simp; omega))) | ((with_reducible refine Below.setCell ?_ ?hb_ _); (case hb_ => first | omega | (simp; done) | (simp; omega))) | with_reducible refine Below.drew ?_ | with_reducible refine below_drewN ?_ _))))
          (apply wpOrd_p2 rfl rfl rfl rfl rfl; (intro w' K hK; (first | go_big_move | go_big_op | go_wp2_with fail); exact hK))
          (apply wpOrd_p2 rfl rfl rfl rfl rfl; (intro w' K hK; (first | go_big_move | go_big_op | go_wp2_with fail); exact hK))
          (apply wpOrd_p2 rfl rfl rfl rfl rfl; (intro w' K hK; (first | go_big_move | go_big_op | go_wp2_with fail); exact hK))
          (apply wpOrd_p2 rfl rfl rfl rfl rfl; (intro w' K hK; (first | go_big_move | go_big_op | go_wp2_with fail); exact hK))
          (refine wpOrd_e1 rfl rfl (fun K hK => ?_)); (first | go_big_op | go_wp2_with fail)
          refine (hSk _).mono ?_; rintro e w9 ⟨rfl, hb9⟩; have hH9 := Held.then (X := []) (Held.drew (Held.refl wr [])) (by simp) hb9; have hB_9 : RowKit.Below w.heap.size w w9 := below_then (Below.drew hB) (by have := hB.size; simp; omega) hb9; have ht := rw_below (k := w2.heap.size) hb9 (by with_reducible repeat (first | assumption | (refine rw_new ?e_; case e_ => first | rfl | (simp; done) | (simp; omega)) | apply rw_self | (apply rw_other; case hn => first | omega | (simp; omega)) | apply rw_alloc | apply rw_drew | apply rw_drewN)); have hi := rw_below (k := w3.heap.size) hb9 (by with_reducible repeat (first | assumption | (refine rw_new ?e_; case e_ => first | rfl | (simp; done) | (simp; omega)) | apply rw_self | (apply rw_other; case hn => first | omega | (simp; omega)) | apply rw_alloc | apply rw_drew | apply rw_drewN)); clear hb9; refine hK _ _ hH9 ?_; clear hK K
          (apply wpOrd_p2 rfl rfl rfl rfl rfl; (intro w' K hK; (first | go_big_move | go_big_op | go_wp2_with fail); exact hK))
          (apply wpOrd_p2 rfl rfl rfl rfl rfl; (intro w' K hK; (first | go_big_move | go_big_op | go_wp2_with fail); exact hK))
          (apply wpOrd_p2 rfl rfl rfl rfl rfl; (intro w' K hK; (first | go_big_move | go_big_op | go_wp2_with fail); exact hK))
          (apply wpOrd_p2 rfl rfl rfl rfl rfl; (intro w' K hK; (first | go_big_move | go_big_op | go_wp2_with fail); exact hK))
          (apply wpOrd_p2 rfl rfl rfl rfl rfl; (intro w' K hK; (first | go_big_move | go_big_op | go_wp2_with fail); exact hK))
          (apply wpOrd_p2 rfl rfl rfl rfl rfl; (intro w' K hK; (first | go_big_move | go_big_op | go_wp2_with fail); exact hK))
          (apply wpOrd_p2 rfl rfl rfl rfl rfl; (intro w' K hK; (first | go_big_move | go_big_op | go_wp2_with fail); exact hK))
          (apply wpOrd_p2 rfl rfl rfl rfl rfl; (intro w' K hK; (first | go_big_move | go_big_op | go_wp2_with fail); exact hK))
          (apply wpOrd_p2 rfl rfl rfl rfl rfl; (intro w' K hK; (first | go_big_move | go_big_op | go_wp2_with fail); exact hK))
          (apply wpOrd_p2 rfl rfl rfl rfl rfl; (intro w' K hK; (first | go_big_move | go_big_op | go_wp2_with fail); exact hK))
          (apply wpOrd_p2 rfl rfl rfl rfl rfl; (intro w' K hK; (first | go_big_move | go_big_op | go_wp2_with fail); exact hK))
          refine wpOrd_nil ?_
          skip
          go_wp2_with fail
          go_roundw
          case rel => exact ⟨3, by omega, by go_num, hB_9, ht, hi⟩
          case measure => simp [intOf]
      · obtain ⟨i0, i1, i2, i3⟩ := cel4 hi
        obtain ⟨t0, t1, t2⟩ := cel3 ht
        have hli := rw_lt hi
        have hlt := rw_lt ht
        have hSk := fun w => Hset.out d w hd
        obtain ⟨f0, f1, f2, f3⟩ := Hn.out
        obtain ⟨g0, g1, g2, g3⟩ := Hm.out
        have fk := f3
        have gk := g0
        clear f0 f1 f2 f3 g0 g1 g2 g3
        by_cases hg : t < d
        · rw [decide_eq_true hg] at hSk
          rw [if_pos hg] at fk gk
          clear hg
          go_wp2_with fail
          refine wp_region_ord (.s 0 .p (.s 1 .l (.s 2 .p (.s 3 .p (.s 4 .l (.s 5 .p (.s 6 .p (.s 7 .p (.s 8 .p (.s 9 .e (.s 10 .p (.s 11 .p (.s 12 .p (.s 13 .p (.s 14 .p (.s 15 .p (.s 16 .p (.s 17 .p (.s 18 .p (.s 19 .p (.s 20 .p .done))))))))))))))))))))) (Held wr []) (by kernel_rfl) (by kernel_rfl) (fun _ _ _ _ _ h => h) (Held.refl _ _) ?_
          (apply wpOrd_p2 rfl rfl rfl rfl rfl; (intro w' K hK; (first | go_big_move | go_big_op | go_wp2_with fail); exact hK))
          (apply wpOrd_l2 rfl rfl rfl rfl rfl; (intro w' K hS' hK; (have hr' := hS'.cell; simp at hr'; (first | go_big_op | go_wp2_with fail); exact hK)); (first | assumption | exact Held.refl _ _ | exact Held.of_below (by repeat (first | with_reducible exact Below.refl _ _ | with_reducible assumption | ((with_reducible refine Below.alloc ?_ ?hb_ _); (case hb_ => first | omega | (simp; done) | (simp; omega))) | ((with_reducible refine Below.setCell ?_ ?hb_ _); (case hb_ => first | omega | (simp; done) | (simp; omega))) | with_reducible refine Below.drew ?_ | with_reducible refine below_drewN ?_ _))))
          (apply wpOrd_p2 rfl rfl rfl rfl rfl; (intro w' K hK; (first | go_big_move | go_big_op | go_wp2_with fail); exact hK))
          (apply wpOrd_p2 rfl rfl rfl rfl rfl; (intro w' K hK; (first | go_big_move | go_big_op | go_wp2_with fail); exact hK))
          (apply wpOrd_l2 rfl rfl rfl rfl rfl; (intro w' K hS' hK; (have hr' := hS'.cell; simp at hr'; (first | go_big_op | go_wp2_with fail); exact hK)); (first | assumption | exact Held.refl _ _ | exact Held.of_below (by repeat (first | with_reducible exact Below.refl _ _ | with_reducible assumption | ((with_reducible refine Below.alloc ?_ ?hb_ _); (case hb_ => first | omega | (simp; done) | (simp; omega))) | ((with_reducible refine Below.setCell ?_ ?hb_ _); (case hb_ => first | omega | (simp; done) | (simp; omega))) | with_reducible refine Below.drew ?_ | with_reducible refine below_drewN ?_ _))))
          (apply wpOrd_p2 rfl rfl rfl rfl rfl; (intro w' K hK; (first | go_big_move | go_big_op | go_wp2_with fail); exact hK))
          (apply wpOrd_p2 rfl rfl rfl rfl rfl; (intro w' K hK; (first | go_big_move | go_big_op | go_wp2_with fail); exact hK))
          (apply wpOrd_p2 rfl rfl rfl rfl rfl; (intro w' K hK; (first | go_big_move | go_big_op | go_wp2_with fail); exact hK))
          (apply wpOrd_p2 rfl rfl rfl rfl rfl; (intro w' K hK; (first | go_big_move | go_big_op | go_wp2_with fail); exact hK))
          (refine wpOrd_e1 rfl rfl (fun K hK => ?_)); (first | go_big_op | go_wp2_with fail)
          refine (hSk _).mono ?_; rintro e w9 ⟨rfl, hb9⟩; have hH9 := Held.then (X := []) (Held.drew (Held.refl wr [])) (by simp) hb9; have hB_9 : RowKit.Below w.heap.size w w9 := below_then (Below.drew hB) (by have := hB.size; simp; omega) hb9; have ht := rw_below (k := w2.heap.size) hb9 (by with_reducible repeat (first | assumption | (refine rw_new ?e_; case e_ => first | rfl | (simp; done) | (simp; omega)) | apply rw_self | (apply rw_other; case hn => first | omega | (simp; omega)) | apply rw_alloc | apply rw_drew | apply rw_drewN)); have hi := rw_below (k := w3.heap.size) hb9 (by with_reducible repeat (first | assumption | (refine rw_new ?e_; case e_ => first | rfl | (simp; done) | (simp; omega)) | apply rw_self | (apply rw_other; case hn => first | omega | (simp; omega)) | apply rw_alloc | apply rw_drew | apply rw_drewN)); clear hb9; refine hK _ _ hH9 ?_; clear hK K
          (apply wpOrd_p2 rfl rfl rfl rfl rfl; (intro w' K hK; (first | go_big_move | go_big_op | go_wp2_with fail); exact hK))
          (apply wpOrd_p2 rfl rfl rfl rfl rfl; (intro w' K hK; (first | go_big_move | go_big_op | go_wp2_with fail); exact hK))
          (apply wpOrd_p2 rfl rfl rfl rfl rfl; (intro w' K hK; (first | go_big_move | go_big_op | go_wp2_with fail); exact hK))
          (apply wpOrd_p2 rfl rfl rfl rfl rfl; (intro w' K hK; (first | go_big_move | go_big_op | go_wp2_with fail); exact hK))
          (apply wpOrd_p2 rfl rfl rfl rfl rfl; (intro w' K hK; (first | go_big_move | go_big_op | go_wp2_with fail); exact hK))
          (apply wpOrd_p2 rfl rfl rfl rfl rfl; (intro w' K hK; (first | go_big_move | go_big_op | go_wp2_with fail); exact hK))
          (apply wpOrd_p2 rfl rfl rfl rfl rfl; (intro w' K hK; (first | go_big_move | go_big_op | go_wp2_with fail); exact hK))
          (apply wpOrd_p2 rfl rfl rfl rfl rfl; (intro w' K hK; (first | go_big_move | go_big_op | go_wp2_with fail); exact hK))
          (apply wpOrd_p2 rfl rfl rfl rfl rfl; (intro w' K hK; (first | go_big_move | go_big_op | go_wp2_with fail); exact hK))
          (apply wpOrd_p2 rfl rfl rfl rfl rfl; (intro w' K hK; (first | go_big_move | go_big_op | go_wp2_with fail); exact hK))
          (apply wpOrd_p2 rfl rfl rfl rfl rfl; (intro w' K hK; (first | go_big_move | go_big_op | go_wp2_with fail); exact hK))
          refine wpOrd_nil ?_
          skip
          go_wp2_with fail
          go_roundw
          case rel => exact ⟨4, by omega, by go_num, hB_9, ht, hi⟩
          case measure => simp [intOf]
        · rw [decide_eq_false hg] at hSk
          rw [if_neg hg] at fk gk
          clear hg
          go_wp2_with fail
          refine wp_region_ord (.s 0 .p (.s 1 .l (.s 2 .p (.s 3 .p (.s 4 .l (.s 5 .p (.s 6 .p (.s 7 .p (.s 8 .p (.s 9 .e (.s 10 .p (.s 11 .p (.s 12 .p (.s 13 .p (.s 14 .p (.s 15 .p (.s 16 .p (.s 17 .p (.s 18 .p (.s 19 .p (.s 20 .p .done))))))))))))))))))))) (Held wr []) (by kernel_rfl) (by kernel_rfl) (fun _ _ _ _ _ h => h) (Held.refl _ _) ?_
          (apply wpOrd_p2 rfl rfl rfl rfl rfl; (intro w' K hK; (first | go_big_move | go_big_op | go_wp2_with fail); exact hK))
          (apply wpOrd_l2 rfl rfl rfl rfl rfl; (intro w' K hS' hK; (have hr' := hS'.cell; simp at hr'; (first | go_big_op | go_wp2_with fail); exact hK)); (first | assumption | exact Held.refl _ _ | exact Held.of_below (by repeat (first | with_reducible exact Below.refl _ _ | with_reducible assumption | ((with_reducible refine Below.alloc ?_ ?hb_ _); (case hb_ => first | omega | (simp; done) | (simp; omega))) | ((with_reducible refine Below.setCell ?_ ?hb_ _); (case hb_ => first | omega | (simp; done) | (simp; omega))) | with_reducible refine Below.drew ?_ | with_reducible refine below_drewN ?_ _))))
          (apply wpOrd_p2 rfl rfl rfl rfl rfl; (intro w' K hK; (first | go_big_move | go_big_op | go_wp2_with fail); exact hK))
          (apply wpOrd_p2 rfl rfl rfl rfl rfl; (intro w' K hK; (first | go_big_move | go_big_op | go_wp2_with fail); exact hK))
          (apply wpOrd_l2 rfl rfl rfl rfl rfl; (intro w' K hS' hK; (have hr' := hS'.cell; simp at hr'; (first | go_big_op | go_wp2_with fail); exact hK)); (first | assumption | exact Held.refl _ _ | exact Held.of_below (by repeat (first | with_reducible exact Below.refl _ _ | with_reducible assumption | ((with_reducible refine Below.alloc ?_ ?hb_ _); (case hb_ => first | omega | (simp; done) | (simp; omega))) | ((with_reducible refine Below.setCell ?_ ?hb_ _); (case hb_ => first | omega | (simp; done) | (simp; omega))) | with_reducible refine Below.drew ?_ | with_reducible refine below_drewN ?_ _))))
          (apply wpOrd_p2 rfl rfl rfl rfl rfl; (intro w' K hK; (first | go_big_move | go_big_op | go_wp2_with fail); exact hK))
          (apply wpOrd_p2 rfl rfl rfl rfl rfl; (intro w' K hK; (first | go_big_move | go_big_op | go_wp2_with fail); exact hK))
          (apply wpOrd_p2 rfl rfl rfl rfl rfl; (intro w' K hK; (first | go_big_move | go_big_op | go_wp2_with fail); exact hK))
          (apply wpOrd_p2 rfl rfl rfl rfl rfl; (intro w' K hK; (first | go_big_move | go_big_op | go_wp2_with fail); exact hK))
          (refine wpOrd_e1 rfl rfl (fun K hK => ?_)); (first | go_big_op | go_wp2_with fail)
          refine (hSk _).mono ?_; rintro e w9 ⟨rfl, hb9⟩; have hH9 := Held.then (X := []) (Held.drew (Held.refl wr [])) (by simp) hb9; have hB_9 : RowKit.Below w.heap.size w w9 := below_then (Below.drew hB) (by have := hB.size; simp; omega) hb9; have ht := rw_below (k := w2.heap.size) hb9 (by with_reducible repeat (first | assumption | (refine rw_new ?e_; case e_ => first | rfl | (simp; done) | (simp; omega)) | apply rw_self | (apply rw_other; case hn => first | omega | (simp; omega)) | apply rw_alloc | apply rw_drew | apply rw_drewN)); have hi := rw_below (k := w3.heap.size) hb9 (by with_reducible repeat (first | assumption | (refine rw_new ?e_; case e_ => first | rfl | (simp; done) | (simp; omega)) | apply rw_self | (apply rw_other; case hn => first | omega | (simp; omega)) | apply rw_alloc | apply rw_drew | apply rw_drewN)); clear hb9; refine hK _ _ hH9 ?_; clear hK K
          (apply wpOrd_p2 rfl rfl rfl rfl rfl; (intro w' K hK; (first | go_big_move | go_big_op | go_wp2_with fail); exact hK))
          (apply wpOrd_p2 rfl rfl rfl rfl rfl; (intro w' K hK; (first | go_big_move | go_big_op | go_wp2_with fail); exact hK))
          (apply wpOrd_p2 rfl rfl rfl rfl rfl; (intro w' K hK; (first | go_big_move | go_big_op | go_wp2_with fail); exact hK))
          (apply wpOrd_p2 rfl rfl rfl rfl rfl; (intro w' K hK; (first | go_big_move | go_big_op | go_wp2_with fail); exact hK))
          (apply wpOrd_p2 rfl rfl rfl rfl rfl; (intro w' K hK; (first | go_big_move | go_big_op | go_wp2_with fail); exact hK))
          (apply wpOrd_p2 rfl rfl rfl rfl rfl; (intro w' K hK; (first | go_big_move | go_big_op | go_wp2_with fail); exact hK))
          (apply wpOrd_p2 rfl rfl rfl rfl rfl; (intro w' K hK; (first | go_big_move | go_big_op | go_wp2_with fail); exact hK))
          (apply wpOrd_p2 rfl rfl rfl rfl rfl; (intro w' K hK; (first | go_big_move | go_big_op | go_wp2_with fail); exact hK))
          (apply wpOrd_p2 rfl rfl rfl rfl rfl; (intro w' K hK; (first | go_big_move | go_big_op | go_wp2_with fail); exact hK))
          (apply wpOrd_p2 rfl rfl rfl rfl rfl; (intro w' K hK; (first | go_big_move | go_big_op | go_wp2_with fail); exact hK))
          (apply wpOrd_p2 rfl rfl rfl rfl rfl; (intro w' K hK; (first | go_big_move | go_big_op | go_wp2_with fail); exact hK))
          refine wpOrd_nil ?_
          skip
          go_wp2_with fail
          go_roundw
          case rel => exact ⟨4, by omega, by go_num, hB_9, ht, hi⟩
          case measure => simp [intOf]
    · have hi5 : i = 4 := by omega
      subst hi5
      go_wp2_with fail
      go_ret
      exact ⟨rfl, (by with_reducible repeat (first | exact Below.refl _ _ | assumption | ((first | refine Below.alloc ?_ ?b_ _ | refine bw_set ?_ ?b_ | refine Below.setCell ?_ ?b_ _); case b_ => first | omega | (simp; done) | (simp; omega)) | refine Below.drew ?_ | refine below_drewN ?_ _))⟩
end Go.Proofs.Ytdkkjlapmaageaa.T3
