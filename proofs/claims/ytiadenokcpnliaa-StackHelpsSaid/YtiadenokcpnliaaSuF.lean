/- chapter 12: the reference's Do. -/
import Derived.Test.YtiadenokcpnliaaSuE
import Derived.WalkKit
import Derived.Lib.Hide
import Derived.Deep.QuietTactic
import Derived.BigQuiet
import Derived.Lib.QuietBelow
import Derived.Deep.RegionHeld3
import Derived.WalkLawsBesides
import Derived.WalkSpells
import Derived.Outline
import Derived.Deep.DeepFit
import Derived.Maps.AppendAt
import Derived.Deep.AppendLies
import Derived.Deep.CutRange
import Derived.OpenShut
namespace Go.Proofs.Ytiadenokcpnliaa.T3
set_option linter.unusedSimpArgs false
set_option linter.unusedVariables false
open Go.RowKit
attribute [local go_sem] Oper.semAt_some
set_option maxHeartbeats 4000000
set_option maxRecDepth 100000

theorem beq_ne (S : ByteArray) (l : List UInt8) (h : ¬ S = ⟨l.toArray⟩) : (S.toList == l) = false := by
  cases hb : (S.toList == l) with
  | false => rfl
  | true =>
    exfalso
    apply h
    have h1 : S.toList = l := by simpa using hb
    rw [ByteArray.toList_eq] at h1
    cases S with
    | mk d => rw [← h1]
theorem rd_none (S : ByteArray) (h0 : ¬ S = ⟨#[112, 111, 112]⟩) (h1 : ¬ S = ⟨#[101, 120, 99, 104]⟩) (h2 : ¬ S = ⟨#[100, 117, 112]⟩) (h3 : ¬ S = ⟨#[99, 111, 112, 121]⟩) (h4 : ¬ S = ⟨#[105, 110, 100, 101, 120]⟩) (h5 : ¬ S = ⟨#[114, 111, 108, 108]⟩) (h6 : ¬ S = ⟨#[99, 108, 101, 97, 114]⟩) (h7 : ¬ S = ⟨#[99, 111, 117, 110, 116]⟩) (h8 : ¬ S = ⟨#[109, 97, 114, 107]⟩) (h9 : ¬ S = ⟨#[99, 108, 101, 97, 114, 116, 111, 109, 97, 114, 107]⟩) (h10 : ¬ S = ⟨#[99, 111, 117, 110, 116, 116, 111, 109, 97, 114, 107]⟩) : OpD S (fun L => (24, L)) := by
  intro A x len cap R L w h hR
  have hz := zeroS
  have hle := h.le
  have hmx := h.mx
  have hsm := h.sm
  have hln := h.ln
  have e0 : (S.toList == [112, 111, 112]) = false := beq_ne _ _ h0
  have e1 : (S.toList == [101, 120, 99, 104]) = false := beq_ne _ _ h1
  have e2 : (S.toList == [100, 117, 112]) = false := beq_ne _ _ h2
  have e3 : (S.toList == [99, 111, 112, 121]) = false := beq_ne _ _ h3
  have e4 : (S.toList == [105, 110, 100, 101, 120]) = false := beq_ne _ _ h4
  have e5 : (S.toList == [114, 111, 108, 108]) = false := beq_ne _ _ h5
  have e6 : (S.toList == [99, 108, 101, 97, 114]) = false := beq_ne _ _ h6
  have e7 : (S.toList == [99, 111, 117, 110, 116]) = false := beq_ne _ _ h7
  have e8 : (S.toList == [109, 97, 114, 107]) = false := beq_ne _ _ h8
  have e9 : (S.toList == [99, 108, 101, 97, 114, 116, 111, 109, 97, 114, 107]) = false := beq_ne _ _ h9
  have e10 : (S.toList == [99, 111, 117, 110, 116, 116, 111, 109, 97, 114, 107]) = false := beq_ne _ _ h10
  go_enter Try.func14, Try.ntmps14
  go_wp2_with (first | ((with_reducible refine rw_list ?_); (with_reducible apply wpList_append_eq); (case ho => with_reducible rfl); (case hgd => with_reducible rfl); (case hs => first | exact ev_const | exact ev_tmp rfl); (case hx => first | exact ev_const | exact ev_tmp rfl); (case hr => exact hap _)) | ((with_reducible refine rw_list ?_); (first | ((with_reducible apply wpList_load_cell); (case ho => with_reducible rfl); (case hgd => with_reducible rfl); (case hx => rfl); (case hu => first | exact Try.underlying22 | exact Try.underlying3 | exact Try.underlying55 | exact Try.underlying9 | exact Try.underlying4); (case hd => rfl)) | ((with_reducible apply wpList_load_row); (case ho => with_reducible rfl); (case hgd => with_reducible rfl); (case hx => rfl); (case hu => first | exact Try.underlying49 | exact Try.underlying83 | exact Try.underlying43); (case hd => rfl)) | ((with_reducible apply wpList_store_row); (case ho => with_reducible rfl); (case hgd => with_reducible rfl); (case hx => rfl); (case hy => rfl)) | ((with_reducible apply wpList_store_cell); (case ho => with_reducible rfl); (case hgd => with_reducible rfl); (case hx => rfl); (case hy => first | exact ev_const | exact ev_tmp rfl); (case h1 => rfl))); (case hg => exact (by with_reducible repeat (first | assumption | (refine rw_new ?e_; case e_ => first | rfl | (simp; done) | (simp; omega)) | apply rw_self | (apply rw_other; case hn => first | omega | (simp; omega)) | apply rw_alloc | apply rw_drew | apply rw_drewN))); (try case hv => first | exact stA_get _ _ | exact hcur0 | rfl); (try case hi => first | exact hR.i49 _ | exact hR.i83 _ | kernel_rfl); (try case hold => first | exact hR.z _ _ | exact hR.sz _ _ | rfl); (try case h1 => first | exact hR.all _ rfl | kernel_rfl); (try case hlt => first | exact stA_lt _ _ | rfl); (try case hcs => first | exact stA_set _ _ _ | ((try simp only [List.setIfInBounds_toArray, List.set_cons_succ, List.set_cons_zero]); rfl))))
  refine bodyPost_ret (v := _) (results_cell_tmp Try.results14 _ _ _ _ _ _ _ (by rfl) (by with_reducible repeat (first | assumption | (refine rw_new ?e_; case e_ => first | rfl | (simp; done) | (simp; omega)) | apply rw_self | (apply rw_other; case hn => first | omega | (simp; omega)) | apply rw_alloc | apply rw_drew | apply rw_drewN)) Try.underlying49 rfl (by exact hR.i49 _)) rfl ⟨⟨_, _, _, rfl, ?_⟩, (by with_reducible repeat (first | exact Below.refl _ _ | assumption | ((first | refine Below.alloc ?_ ?b_ _ | refine bw_set ?_ ?b_ | refine Below.setCell ?_ ?b_ _); case b_ => first | omega | (simp; done) | (simp; omega)) | refine Below.drew ?_ | refine below_drewN ?_ _))⟩
  exact (h.out w.heap.size).below (B := w.heap.size) (by with_reducible repeat (first | exact Below.refl _ _ | assumption | ((first | refine Below.alloc ?_ ?b_ _ | refine bw_set ?_ ?b_ | refine Below.setCell ?_ ?b_ _); case b_ => first | omega | (simp; done) | (simp; omega)) | refine Below.drew ?_ | refine below_drewN ?_ _)) (Nat.le_refl _)
theorem ref_any (S : ByteArray) : OpD S (doR S) := by
  by_cases h0 : S = ⟨#[112, 111, 112]⟩
  · subst h0
    intro A x len cap R L w h hR
    rw [do_pop]
    exact rd_pop A x len cap R L w h hR
  by_cases h1 : S = ⟨#[101, 120, 99, 104]⟩
  · subst h1
    intro A x len cap R L w h hR
    rw [do_exch]
    exact rd_exch A x len cap R L w h hR
  by_cases h2 : S = ⟨#[100, 117, 112]⟩
  · subst h2
    intro A x len cap R L w h hR
    rw [do_dup]
    exact rd_dup A x len cap R L w h hR
  by_cases h3 : S = ⟨#[99, 111, 112, 121]⟩
  · subst h3
    intro A x len cap R L w h hR
    rw [do_copy]
    exact rd_copy A x len cap R L w h hR
  by_cases h4 : S = ⟨#[105, 110, 100, 101, 120]⟩
  · subst h4
    intro A x len cap R L w h hR
    rw [do_index]
    exact rd_index A x len cap R L w h hR
  by_cases h5 : S = ⟨#[114, 111, 108, 108]⟩
  · subst h5
    intro A x len cap R L w h hR
    rw [do_roll]
    exact rd_roll A x len cap R L w h hR
  by_cases h6 : S = ⟨#[99, 108, 101, 97, 114]⟩
  · subst h6
    intro A x len cap R L w h hR
    rw [do_clear]
    exact rd_clear A x len cap R L w h hR
  by_cases h7 : S = ⟨#[99, 111, 117, 110, 116]⟩
  · subst h7
    intro A x len cap R L w h hR
    rw [do_count]
    exact rd_count A x len cap R L w h hR
  by_cases h8 : S = ⟨#[109, 97, 114, 107]⟩
  · subst h8
    intro A x len cap R L w h hR
    rw [do_mark]
    exact rd_mark A x len cap R L w h hR
  by_cases h9 : S = ⟨#[99, 108, 101, 97, 114, 116, 111, 109, 97, 114, 107]⟩
  · subst h9
    intro A x len cap R L w h hR
    rw [do_ctm]
    exact rd_ctm A x len cap R L w h hR
  by_cases h10 : S = ⟨#[99, 111, 117, 110, 116, 116, 111, 109, 97, 114, 107]⟩
  · subst h10
    intro A x len cap R L w h hR
    rw [do_ctt]
    exact rd_ctt A x len cap R L w h hR
  intro A x len cap R L w h hR
  rw [do_other S L ⟨h0, h1, h2, h3, h4, h5, h6, h7, h8, h9, h10⟩]
  exact rd_none S h0 h1 h2 h3 h4 h5 h6 h7 h8 h9 h10 A x len cap R L w h hR
end Go.Proofs.Ytiadenokcpnliaa.T3
