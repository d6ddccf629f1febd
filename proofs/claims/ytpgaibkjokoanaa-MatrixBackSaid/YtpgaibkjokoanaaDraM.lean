/- chaseref20.Draft.Matrix returns a valid matrix, for every draft; nothing that was in memory changes. -/
import Derived.Test.YtpgaibkjokoanaaMat
import Derived.WalkKit
import Derived.Lib.Hide
import Derived.Deep.QuietTactic
import Derived.BigQuiet
import Derived.Lib.QuietBelow
import Derived.Deep.RegionHeld3
import Derived.WalkLawsBesides
import Derived.WalkSpells
import Derived.Outline
import Derived.Deep.DeepFit
import Derived.Maps.AppendAt
import Derived.Deep.AppendLies
namespace Go.Proofs.Ytpgaibkjokoanaa
set_option linter.unusedSimpArgs false
set_option linter.unusedVariables false
open Go.RowKit

theorem tmod_bd (x : Int) (m : Int) (hm : 0 < m) : -(m - 1) ≤ Int.tmod x m ∧ Int.tmod x m ≤ m - 1 := by
  rcases Int.le_total 0 x with h | h
  · have h1 := Int.tmod_nonneg m h
    have h2 := Int.tmod_lt_of_pos x hm
    omega
  · have h1 := Int.tmod_nonneg m (show 0 ≤ -x by omega)
    have h2 := Int.tmod_lt_of_pos (-x) hm
    rw [Int.neg_tmod] at h1 h2
    omega
theorem emod_le' {x m : Int} (h : 0 ≤ x) (hm : 0 < m) : x % m ≤ x := by
  have h1 := Int.emod_add_mul_ediv x m
  have h2 : 0 ≤ m * (x / m) := Int.mul_nonneg (by omega) (Int.ediv_nonneg h (by omega))
  omega
theorem tmod_le (x m k : Int) (hm : 0 < m) (hk : 0 ≤ k) (h : -k ≤ x ∧ x ≤ k) : -k ≤ Int.tmod x m ∧ Int.tmod x m ≤ k := by
  rcases Int.le_total 0 x with hx | hx
  · have h1 := Int.tmod_nonneg m hx
    have h2 : Int.tmod x m ≤ x := by rw [Int.tmod_eq_emod_of_nonneg hx]; exact emod_le' hx (by omega)
    omega
  · have h1 := Int.tmod_nonneg m (show 0 ≤ -x by omega)
    have h2 : Int.tmod (-x) m ≤ -x := by rw [Int.tmod_eq_emod_of_nonneg (by omega)]; exact emod_le' (by omega) (by omega)
    rw [Int.neg_tmod] at h1 h2
    omega
def i32ok (x : Int) : Prop := -2147483648 ≤ x ∧ x ≤ 2147483647
set_option maxHeartbeats 4000000 in
theorem dmatrix_any (k a b c d e f : Int) (w : World) (hk : 0 ≤ k ∧ k ≤ 255) (ha : i32ok a) (hb : i32ok b) (hc : i32ok c) (hd : i32ok d) (he : i32ok e) (hf : i32ok f) :
    Calls Try.prog 20 #[.agg #[.int .u8 k, .int .i32 a, .int .i32 b, .int .i32 c, .int .i32 d, .int .i32 e, .int .i32 f]] w fun x w' => (∃ A B C D E F, mOk A B C D E F ∧ x = .returned (.agg #[.int .i64 A, .int .i64 B, .int .i64 C, .int .i64 D, .int .i64 E, .int .i64 F])) ∧ Below w.heap.size w w' := by
  unfold i32ok at *
  have a1 := tmod_bd a 16777217 (by omega)
  have b1 := tmod_bd b 16777217 (by omega)
  have c1 := tmod_bd c 16777217 (by omega)
  have d1 := tmod_bd d 16777217 (by omega)
  have e1 := tmod_bd e 536870913 (by omega)
  have f1 := tmod_bd f 536870913 (by omega)
  have a2 := tmod_bd (a.tmod 16777217) 300000 (by omega)
  have b2 := tmod_bd (b.tmod 16777217) 300000 (by omega)
  have c2 := tmod_bd (c.tmod 16777217) 300000 (by omega)
  have d2 := tmod_bd (d.tmod 16777217) 300000 (by omega)
  have e2 := tmod_bd (e.tmod 536870913) 9000000 (by omega)
  have f2 := tmod_bd (f.tmod 536870913) 9000000 (by omega)
  go_enter Try.func20, Try.ntmps20
  go_wp2_with fail
  · exact bodyPost_ret (v := .agg #[.int .i64 (a.tmod 16777217), .int .i64 (b.tmod 16777217), .int .i64 (c.tmod 16777217), .int .i64 (d.tmod 16777217), .int .i64 (e.tmod 536870913), .int .i64 (f.tmod 536870913)]) (by simp [results, Try.results20, go_sem]) rfl ⟨⟨(a.tmod 16777217), (b.tmod 16777217), (c.tmod 16777217), (d.tmod 16777217), (e.tmod 536870913), (f.tmod 536870913), by unfold mOk; omega, rfl⟩, (by repeat (first | with_reducible exact Below.refl _ _ | with_reducible assumption | ((with_reducible refine Below.alloc ?_ ?hb_ _); (case hb_ => first | omega | (simp; done) | (simp; omega))) | ((with_reducible refine Below.setCell ?_ ?hb_ _); (case hb_ => first | omega | (simp; done) | (simp; omega))) | with_reducible refine Below.drew ?_ | with_reducible refine below_drewN ?_ _))⟩
  · exact bodyPost_ret (v := .agg #[.int .i64 ((a.tmod 16777217).tmod 300000), .int .i64 ((b.tmod 16777217).tmod 300000), .int .i64 ((c.tmod 16777217).tmod 300000), .int .i64 ((d.tmod 16777217).tmod 300000), .int .i64 ((e.tmod 536870913).tmod 9000000), .int .i64 ((f.tmod 536870913).tmod 9000000)]) (by simp [results, Try.results20, go_sem]) rfl ⟨⟨((a.tmod 16777217).tmod 300000), ((b.tmod 16777217).tmod 300000), ((c.tmod 16777217).tmod 300000), ((d.tmod 16777217).tmod 300000), ((e.tmod 536870913).tmod 9000000), ((f.tmod 536870913).tmod 9000000), by unfold mOk; omega, rfl⟩, (by repeat (first | with_reducible exact Below.refl _ _ | with_reducible assumption | ((with_reducible refine Below.alloc ?_ ?hb_ _); (case hb_ => first | omega | (simp; done) | (simp; omega))) | ((with_reducible refine Below.setCell ?_ ?hb_ _); (case hb_ => first | omega | (simp; done) | (simp; omega))) | with_reducible refine Below.drew ?_ | with_reducible refine below_drewN ?_ _))⟩
  · exact bodyPost_ret (v := .agg #[.int .i64 ((a.tmod 16777217).tmod 300000), .int .i64 0, .int .i64 0, .int .i64 ((d.tmod 16777217).tmod 300000), .int .i64 ((e.tmod 536870913).tmod 9000000), .int .i64 ((f.tmod 536870913).tmod 9000000)]) (by simp [results, Try.results20, go_sem]) rfl ⟨⟨((a.tmod 16777217).tmod 300000), 0, 0, ((d.tmod 16777217).tmod 300000), ((e.tmod 536870913).tmod 9000000), ((f.tmod 536870913).tmod 9000000), by unfold mOk; omega, rfl⟩, (by repeat (first | with_reducible exact Below.refl _ _ | with_reducible assumption | ((with_reducible refine Below.alloc ?_ ?hb_ _); (case hb_ => first | omega | (simp; done) | (simp; omega))) | ((with_reducible refine Below.setCell ?_ ?hb_ _); (case hb_ => first | omega | (simp; done) | (simp; omega))) | with_reducible refine Below.drew ?_ | with_reducible refine below_drewN ?_ _))⟩
  · exact bodyPost_ret (v := .agg #[.int .i64 0, .int .i64 ((b.tmod 16777217).tmod 300000), .int .i64 ((c.tmod 16777217).tmod 300000), .int .i64 0, .int .i64 ((e.tmod 536870913).tmod 9000000), .int .i64 ((f.tmod 536870913).tmod 9000000)]) (by simp [results, Try.results20, go_sem]) rfl ⟨⟨0, ((b.tmod 16777217).tmod 300000), ((c.tmod 16777217).tmod 300000), 0, ((e.tmod 536870913).tmod 9000000), ((f.tmod 536870913).tmod 9000000), by unfold mOk; omega, rfl⟩, (by repeat (first | with_reducible exact Below.refl _ _ | with_reducible assumption | ((with_reducible refine Below.alloc ?_ ?hb_ _); (case hb_ => first | omega | (simp; done) | (simp; omega))) | ((with_reducible refine Below.setCell ?_ ?hb_ _); (case hb_ => first | omega | (simp; done) | (simp; omega))) | with_reducible refine Below.drew ?_ | with_reducible refine below_drewN ?_ _))⟩
end Go.Proofs.Ytpgaibkjokoanaa
