/- ObjectNumbers: the walk. -/
import Derived.Test.YticbjpficaaaiaaObjN1
import Derived.Test.YticbjpficaaaiaaObjN2
import Derived.Test.YticbjpficaaaiaaObjN3
import Derived.Test.YticbjpficaaaiaaObjN4
import Derived.WalkKit
import Derived.Lib.Hide
import Derived.Deep.QuietTactic
import Derived.BigQuiet
import Derived.Lib.QuietBelow
import Derived.Deep.RegionHeld3
import Derived.WalkLawsBesides
import Derived.WalkSpells
import Derived.Outline
import Derived.Deep.DeepFit
import Derived.Maps.AppendAt
import Derived.Deep.AppendLies
namespace Go.Proofs.Yticbjpficaaaiaa.T3
set_option linter.unusedSimpArgs false
set_option linter.unusedVariables false
open Go.RowKit
theorem nums_walk (k : Int) (X : Bool) (N : Int) (S : ByteArray) (R O L : Int) (k' : Int) (X' : Bool) (N' : Int) (S' : ByteArray) (R' O' L' : Int) (w : World) (s0 : (Lit.int .i64 k).wf = true) (s1 : (Lit.int .i64 N).wf = true) (s2 : S.size ≤ maxLen) (s3 : (Lit.int .i64 R).wf = true) (s4 : (Lit.int .i64 O).wf = true) (s5 : (Lit.int .i64 L).wf = true) (t0 : (Lit.int .i64 k').wf = true) (t1 : (Lit.int .i64 N').wf = true) (t2 : S'.size ≤ maxLen) (t3 : (Lit.int .i64 R').wf = true) (t4 : (Lit.int .i64 O').wf = true) (t5 : (Lit.int .i64 L').wf = true)  :
    Calls Try.prog 4 #[.agg #[.int .i64 k, .bool X, .int .i64 N, .string S, .int .i64 R, .int .i64 O, .int .i64 L], .agg #[.int .i64 k', .bool X', .int .i64 N', .string S', .int .i64 R', .int .i64 O', .int .i64 L']] w fun e w' => e = .returned (.bool true) ∧ Below w.heap.size w w' := by
  have hN := (bounds_i64 s1).2
  have hN' := (bounds_i64 t1).2
  by_cases h : okO k N S.size R O L
  · by_cases hn : isNum k
    · by_cases v : -2147483648 ≤ oVal k N ∧ oVal k N ≤ 2147483648
      · by_cases h' : okO k' N' S'.size R' O' L'
        · by_cases hn' : isNum k'
          · exact nums_near_ok _ _ _ _ _ _ _ _ _ _ _ _ _ _ _ hN hN' h hn v.1 v.2 h' hn'
          · exact nums_near_ty _ _ _ _ _ _ _ _ _ _ _ _ _ _ _ hN hN' h hn v.1 v.2 h' hn'
        · exact nums_near_no _ _ _ _ _ _ _ _ _ _ _ _ _ _ _ hN hN' h hn v.1 v.2 h'
      · by_cases h' : okO k' N' S'.size R' O' L'
        · by_cases hn' : isNum k'
          · exact nums_far_ok _ _ _ _ _ _ _ _ _ _ _ _ _ _ _ hN hN' h hn v h' hn'
          · exact nums_far_ty _ _ _ _ _ _ _ _ _ _ _ _ _ _ _ hN hN' h hn v h' hn'
        · exact nums_far_no _ _ _ _ _ _ _ _ _ _ _ _ _ _ _ hN hN' h hn v h'
    · by_cases h' : okO k' N' S'.size R' O' L'
      · exact nums_ty_ok _ _ _ _ _ _ _ _ _ _ _ _ _ _ _ hN hN' h hn h'
      · exact nums_ty_no _ _ _ _ _ _ _ _ _ _ _ _ _ _ _ hN hN' h hn h'
  · exact nums_no _ _ _ _ _ _ _ _ _ _ _ _ _ _ _ hN hN' h
end Go.Proofs.Yticbjpficaaaiaa.T3
