/- XGrow's step for what makes something, with the temporaries laid plain behind it: the walk stays small. -/
import Derived.Test.YtiadenokcpnliaaGrow
import Derived.WalkKit
import Derived.Lib.Hide
import Derived.Deep.QuietTactic
import Derived.BigQuiet
import Derived.Lib.QuietBelow
import Derived.Deep.RegionHeld3
import Derived.WalkLawsBesides
import Derived.WalkSpells
import Derived.Outline
import Derived.Deep.DeepFit
import Derived.Maps.AppendAt
import Derived.Deep.AppendLies
namespace Go.Proofs.Ytiadenokcpnliaa.T3
set_option linter.unusedSimpArgs false
set_option linter.unusedVariables false
open Go.RowKit
section
variable {P : Program} {ops : Array Oper} {Q : Exit → Act → World → Prop} {w0 : World} {r : OT}
theorem wpG_g2 {i : Nat} {L : List St} {Γ : Ga} {a : Act} {a1 : Value → Act} {o : Oper} {d : Tmp} {m : Made} (ho : ops[i]? = some o) (hw : Region.wanted o (yielded ops a.tmps) = true) (hd : o.dst = some d) (hlt : decide (d < a.tmps.size) = true) (hex : ∃ v, m.sh v)
    (ha : ∀ v, a.put (some d) v = a1 v)
    (hv : ∀ (w' : World) (K : Act → World → Prop), Cls ops w0 Γ i w' → (∀ v w'', m.sh v → Below w'.heap.size w' w'' → m.at w'.heap.size v w'' → K (a.put o.dst v) w'') → o.wp P a w' K (fun _ _ _ => False))
    (h : ∀ v, m.sh v → wpG P ops Q w0 r L ((i, m, v) :: Γ) (a1 v)) : wpG P ops Q w0 r ((i, some m) :: L) Γ a :=
  wpG_g ho hw hd hlt hex hv (fun v hs => by rw [hd, ha v]; exact h v hs)
end
end Go.Proofs.Ytiadenokcpnliaa.T3
