/- chaselaw28.few returns a picture with at most a thousand octets, for every picture; nothing that was in memory changes. -/
import Derived.Test.YtkkeahnmmpcceaaMat
import Derived.WalkKit
import Derived.Lib.Hide
import Derived.Deep.QuietTactic
import Derived.BigQuiet
import Derived.Lib.QuietBelow
import Derived.Deep.RegionHeld3
import Derived.WalkLawsBesides
import Derived.WalkSpells
import Derived.Outline
import Derived.Deep.DeepFit
import Derived.Maps.AppendAt
import Derived.Deep.AppendLies
namespace Go.Proofs.Ytkkeahnmmpcceaa
open Go.RowKit

theorem few_any (W H N : Int) (S : ByteArray) (A B C D E F : Int) (w : World) (hS : S.size ≤ 9223372036854775807) :
    Calls Try.prog 9 #[.agg #[.int .i64 W, .int .i64 H, .int .i64 N, .string S, .int .i64 A, .int .i64 B, .int .i64 C, .int .i64 D, .int .i64 E, .int .i64 F]] w fun e w' => (∃ T : ByteArray, T.size ≤ 1000 ∧ e = .returned (.agg #[.int .i64 W, .int .i64 H, .int .i64 N, .string T, .int .i64 A, .int .i64 B, .int .i64 C, .int .i64 D, .int .i64 E, .int .i64 F])) ∧ Below w.heap.size w w' := by
  have hmin : (if (1000 : Int) < (S.size : Int) then (1000 : Int) else S.size) = min (S.size : Int) 1000 := by
    split <;> omega
  have h0 : 0 ≤ min (S.size : Int) 1000 := by omega
  have h1 : min (S.size : Int) 1000 ≤ S.size := by omega
  have h2 : min (S.size : Int) 1000 ≤ 1000 := by omega
  go_enter Try.func9, Try.ntmps9
  go_wp2_with fail
  exact bodyPost_ret (v := .agg #[.int .i64 W, .int .i64 H, .int .i64 N, .string (S.extract 0 (min (S.size : Int) 1000).toNat), .int .i64 A, .int .i64 B, .int .i64 C, .int .i64 D, .int .i64 E, .int .i64 F]) (by simp [results, Try.results9, go_sem]) rfl ⟨⟨_, by rw [ByteArray.size_extract]; omega, rfl⟩, (by repeat (first | with_reducible exact Below.refl _ _ | with_reducible assumption | ((with_reducible refine Below.alloc ?_ ?hb_ _); (case hb_ => first | omega | (simp; done) | (simp; omega))) | ((with_reducible refine Below.setCell ?_ ?hb_ _); (case hb_ => first | omega | (simp; done) | (simp; omega))) | with_reducible refine Below.drew ?_ | with_reducible refine below_drewN ?_ _))⟩
end Go.Proofs.Ytkkeahnmmpcceaa
