/-
  NARROWER THAN 'FOR EVERY INPUT', by the rows' own cells (each row's printed sentence says how): StackRuns: loops · StackTurns: loops · StackCopies: loops · StackStays: loops · StackHelps: loops · StackDoes: loops.
  DERIVED. THE GIVEN ROWS OF THIS SEAT. 7 by the template 'for every input the law returns true; each argument reads behind the call as it read before'; 0 by the template 'total and deterministic' (their statements: YtiadenokcpnliaaTotals.lean).
  GIVEN WITH THE SEED: the statements are not yours to turn. If you find one false, say at which input.
  Laid BY PROGRAM, IN A SANDBOX (cutbox-rows.mjs): the forced cells as the released guide's own fill.sh prints them over the translation d18026f31366eff5… (all of the seat's roots in one cut). By AI agents, Wed Nov 11 2026. No macro, syntax, notation, axiom, sorry.
-/
import Derived.Test.YtiadenokcpnliaaChecked
import GoSem.Claim
import GoSem.ClaimJoined
import GoSem.ClaimMapViews
import Derived.JoinedTies
import Derived.KernelRfl
namespace Go.Proofs.Ytiadenokcpnliaa
/- THE CELL 'sum', in the pinned program and in every row, IS THE sha256 OF THE DUMP (.gsa) THAT YtiadenokcpnliaaProg.lean LOADS. Nothing in Lean hashes anything: it is a label: what it is worth is what the hold of that sum in a sandbox is worth. -/
noncomputable def Try.pinned : Pinned := { name := "ytiadenokcpnliaa", sum := "d18026f31366eff54b8a007838e218436ab2c531c1120b801a78c1c4c00a0577", checked := Try.checked }
namespace Rows
def none {H : Type} : Left H := { results := [], args := [] }

/-- 'chaselaw12.StackRuns': WHATEVER THE INPUT: true; the input reads as it did. -/
def stackRunsSpec : ChangeSpec := { name := "stackRuns", fn := fun _ => fun
  | [d1, d2] => { results := [.lit (.bool true)], args := [d1, d2] }
  | _ => none }
def stackRunsRow : OpenClaim := { program := "ytiadenokcpnliaa", sum := "d18026f31366eff54b8a007838e218436ab2c531c1120b801a78c1c4c00a0577", func := "chase/chaselaw12.StackRuns", spec := "stackRuns", unfollowed := true, recurses := true, loops := true, apart := false }
def StackRunsSaid : Prop := stackRunsRow.holds Try.pinned (OpenSpec.ofChange stackRunsSpec)

/-- ITS FALSE NEIGHBOUR: 'it returns false'. Refute it at one input. -/
def stackRunsWrong : ChangeSpec := { name := "stackRuns", fn := fun _ => fun
  | [d1, d2] => { results := [.lit (.bool false)], args := [d1, d2] }
  | _ => none }
def StackRunsWrongFalsely : Prop := stackRunsRow.holds Try.pinned (OpenSpec.ofChange stackRunsWrong)

/-- 'chaselaw12.StackTurns': WHATEVER THE INPUT: true; the input reads as it did. -/
def stackTurnsSpec : ChangeSpec := { name := "stackTurns", fn := fun _ => fun
  | [d1, d2, d3] => { results := [.lit (.bool true)], args := [d1, d2, d3] }
  | _ => none }
def stackTurnsRow : OpenClaim := { program := "ytiadenokcpnliaa", sum := "d18026f31366eff54b8a007838e218436ab2c531c1120b801a78c1c4c00a0577", func := "chase/chaselaw12.StackTurns", spec := "stackTurns", unfollowed := true, recurses := true, loops := true, apart := false }
def StackTurnsSaid : Prop := stackTurnsRow.holds Try.pinned (OpenSpec.ofChange stackTurnsSpec)

/-- ITS FALSE NEIGHBOUR: 'it returns false'. Refute it at one input. -/
def stackTurnsWrong : ChangeSpec := { name := "stackTurns", fn := fun _ => fun
  | [d1, d2, d3] => { results := [.lit (.bool false)], args := [d1, d2, d3] }
  | _ => none }
def StackTurnsWrongFalsely : Prop := stackTurnsRow.holds Try.pinned (OpenSpec.ofChange stackTurnsWrong)

/-- 'chaselaw12.StackCopies': WHATEVER THE INPUT: true; the input reads as it did. -/
def stackCopiesSpec : ChangeSpec := { name := "stackCopies", fn := fun _ => fun
  | [d1, d2] => { results := [.lit (.bool true)], args := [d1, d2] }
  | _ => none }
def stackCopiesRow : OpenClaim := { program := "ytiadenokcpnliaa", sum := "d18026f31366eff54b8a007838e218436ab2c531c1120b801a78c1c4c00a0577", func := "chase/chaselaw12.StackCopies", spec := "stackCopies", unfollowed := true, recurses := true, loops := true, apart := false }
def StackCopiesSaid : Prop := stackCopiesRow.holds Try.pinned (OpenSpec.ofChange stackCopiesSpec)

/-- ITS FALSE NEIGHBOUR: 'it returns false'. Refute it at one input. -/
def stackCopiesWrong : ChangeSpec := { name := "stackCopies", fn := fun _ => fun
  | [d1, d2] => { results := [.lit (.bool false)], args := [d1, d2] }
  | _ => none }
def StackCopiesWrongFalsely : Prop := stackCopiesRow.holds Try.pinned (OpenSpec.ofChange stackCopiesWrong)

/-- 'chaselaw12.StackStays': WHATEVER THE INPUT: true; the input reads as it did. -/
def stackStaysSpec : ChangeSpec := { name := "stackStays", fn := fun _ => fun
  | [d1, d2] => { results := [.lit (.bool true)], args := [d1, d2] }
  | _ => none }
def stackStaysRow : OpenClaim := { program := "ytiadenokcpnliaa", sum := "d18026f31366eff54b8a007838e218436ab2c531c1120b801a78c1c4c00a0577", func := "chase/chaselaw12.StackStays", spec := "stackStays", unfollowed := true, recurses := true, loops := true, apart := false }
def StackStaysSaid : Prop := stackStaysRow.holds Try.pinned (OpenSpec.ofChange stackStaysSpec)

/-- ITS FALSE NEIGHBOUR: 'it returns false'. Refute it at one input. -/
def stackStaysWrong : ChangeSpec := { name := "stackStays", fn := fun _ => fun
  | [d1, d2] => { results := [.lit (.bool false)], args := [d1, d2] }
  | _ => none }
def StackStaysWrongFalsely : Prop := stackStaysRow.holds Try.pinned (OpenSpec.ofChange stackStaysWrong)

/-- 'chaselaw12.StackKnown': WHATEVER THE INPUT: true; the input reads as it did. -/
def stackKnownSpec : ChangeSpec := { name := "stackKnown", fn := fun _ => fun
  | [] => { results := [.lit (.bool true)], args := [] }
  | _ => none }
def stackKnownRow : OpenClaim := { program := "ytiadenokcpnliaa", sum := "d18026f31366eff54b8a007838e218436ab2c531c1120b801a78c1c4c00a0577", func := "chase/chaselaw12.StackKnown", spec := "stackKnown", unfollowed := true, recurses := true, apart := false }
def StackKnownSaid : Prop := stackKnownRow.holds Try.pinned (OpenSpec.ofChange stackKnownSpec)

/-- ITS FALSE NEIGHBOUR: 'it returns false'. Refute it at one input. -/
def stackKnownWrong : ChangeSpec := { name := "stackKnown", fn := fun _ => fun
  | [] => { results := [.lit (.bool false)], args := [] }
  | _ => none }
def StackKnownWrongFalsely : Prop := stackKnownRow.holds Try.pinned (OpenSpec.ofChange stackKnownWrong)

/-- 'chaselaw12.StackHelps': WHATEVER THE INPUT: true; the input reads as it did. -/
def stackHelpsSpec : ChangeSpec := { name := "stackHelps", fn := fun _ => fun
  | [d1, d2, d3] => { results := [.lit (.bool true)], args := [d1, d2, d3] }
  | _ => none }
def stackHelpsRow : OpenClaim := { program := "ytiadenokcpnliaa", sum := "d18026f31366eff54b8a007838e218436ab2c531c1120b801a78c1c4c00a0577", func := "chase/chaselaw12.StackHelps", spec := "stackHelps", unfollowed := true, recurses := true, loops := true, apart := false }
def StackHelpsSaid : Prop := stackHelpsRow.holds Try.pinned (OpenSpec.ofChange stackHelpsSpec)

/-- ITS FALSE NEIGHBOUR: 'it returns false'. Refute it at one input. -/
def stackHelpsWrong : ChangeSpec := { name := "stackHelps", fn := fun _ => fun
  | [d1, d2, d3] => { results := [.lit (.bool false)], args := [d1, d2, d3] }
  | _ => none }
def StackHelpsWrongFalsely : Prop := stackHelpsRow.holds Try.pinned (OpenSpec.ofChange stackHelpsWrong)

/-- 'chaselaw12.StackDoes': WHATEVER THE INPUT: true; the input reads as it did. -/
def stackDoesSpec : ChangeSpec := { name := "stackDoes", fn := fun _ => fun
  | [d1, d2] => { results := [.lit (.bool true)], args := [d1, d2] }
  | _ => none }
def stackDoesRow : OpenClaim := { program := "ytiadenokcpnliaa", sum := "d18026f31366eff54b8a007838e218436ab2c531c1120b801a78c1c4c00a0577", func := "chase/chaselaw12.StackDoes", spec := "stackDoes", unfollowed := true, recurses := true, loops := true, apart := false }
def StackDoesSaid : Prop := stackDoesRow.holds Try.pinned (OpenSpec.ofChange stackDoesSpec)

/-- ITS FALSE NEIGHBOUR: 'it returns false'. Refute it at one input. -/
def stackDoesWrong : ChangeSpec := { name := "stackDoes", fn := fun _ => fun
  | [d1, d2] => { results := [.lit (.bool false)], args := [d1, d2] }
  | _ => none }
def StackDoesWrongFalsely : Prop := stackDoesRow.holds Try.pinned (OpenSpec.ofChange stackDoesWrong)

/- THE SECOND FORM. 'bulk': how many values and letters a reading holds, each counted each time it is reached (what is shared counts as often as it is met; a slice's spare places count too). A statement '..UptoSaid' is the law's where the arguments, and the package variables that the reading takes, are together of bulk at most 1048576: NARROWER than '..Said'. Prove '..Said' where nothing that the law and all that it calls make is longer than what came in: it says more and counts as full. Else prove '..UptoSaid'. A law counts once. -/
mutual
def uptoBulk {H : Type} : DataW H → Nat
  | .lit (.string bytes) => bytes.length + 1
  | .lit _ => 1
  | .nil => 1
  | .ptr d => uptoBulk d + 1
  | .slice elems spare => uptoBulkAll elems + uptoBulkAll spare + 1
  | .agg parts => uptoBulkAll parts + 1
  | .iface _ d => uptoBulk d + 1
  | .map entries => uptoBulkEntries entries + 1
  | .held _ => 1
def uptoBulkAll {H : Type} : List (DataW H) → Nat
  | [] => 0
  | d :: r => uptoBulk d + uptoBulkAll r
def uptoBulkEntries {H : Type} : List (Lit × DataW H) → Nat
  | [] => 0
  | x :: r => uptoBulkEntry x + uptoBulkEntries r
def uptoBulkEntry {H : Type} : Lit × DataW H → Nat
  | (.string bytes, d) => bytes.length + uptoBulk d + 1
  | (_, d) => uptoBulk d + 1
 end
def uptoSmall : (H : Type) → List (DataW H) → Bool := fun _ ds => decide (uptoBulkAll ds ≤ 1048576)
def OpenSpec.upto (s : _root_.Go.ChangeSpec) : _root_.Go.OpenSpec := { _root_.Go.OpenSpec.ofChange s with cond := some uptoSmall }

/-- 'chaselaw12.StackRuns', WHERE WHAT IT READS IS OF BULK AT MOST 1048576: true; the input reads as it did. -/
def stackRunsUptoRow : OpenClaim := { program := "ytiadenokcpnliaa", sum := "d18026f31366eff54b8a007838e218436ab2c531c1120b801a78c1c4c00a0577", func := "chase/chaselaw12.StackRuns", spec := "stackRuns", unfollowed := true, recurses := true, loops := true, apart := false, narrowed := true }
def StackRunsUptoSaid : Prop := stackRunsUptoRow.holds Try.pinned (OpenSpec.upto stackRunsSpec)

/-- 'chaselaw12.StackTurns', WHERE WHAT IT READS IS OF BULK AT MOST 1048576: true; the input reads as it did. -/
def stackTurnsUptoRow : OpenClaim := { program := "ytiadenokcpnliaa", sum := "d18026f31366eff54b8a007838e218436ab2c531c1120b801a78c1c4c00a0577", func := "chase/chaselaw12.StackTurns", spec := "stackTurns", unfollowed := true, recurses := true, loops := true, apart := false, narrowed := true }
def StackTurnsUptoSaid : Prop := stackTurnsUptoRow.holds Try.pinned (OpenSpec.upto stackTurnsSpec)

/-- 'chaselaw12.StackCopies', WHERE WHAT IT READS IS OF BULK AT MOST 1048576: true; the input reads as it did. -/
def stackCopiesUptoRow : OpenClaim := { program := "ytiadenokcpnliaa", sum := "d18026f31366eff54b8a007838e218436ab2c531c1120b801a78c1c4c00a0577", func := "chase/chaselaw12.StackCopies", spec := "stackCopies", unfollowed := true, recurses := true, loops := true, apart := false, narrowed := true }
def StackCopiesUptoSaid : Prop := stackCopiesUptoRow.holds Try.pinned (OpenSpec.upto stackCopiesSpec)

/-- 'chaselaw12.StackStays', WHERE WHAT IT READS IS OF BULK AT MOST 1048576: true; the input reads as it did. -/
def stackStaysUptoRow : OpenClaim := { program := "ytiadenokcpnliaa", sum := "d18026f31366eff54b8a007838e218436ab2c531c1120b801a78c1c4c00a0577", func := "chase/chaselaw12.StackStays", spec := "stackStays", unfollowed := true, recurses := true, loops := true, apart := false, narrowed := true }
def StackStaysUptoSaid : Prop := stackStaysUptoRow.holds Try.pinned (OpenSpec.upto stackStaysSpec)

/-- 'chaselaw12.StackKnown', WHERE WHAT IT READS IS OF BULK AT MOST 1048576: true; the input reads as it did. -/
def stackKnownUptoRow : OpenClaim := { program := "ytiadenokcpnliaa", sum := "d18026f31366eff54b8a007838e218436ab2c531c1120b801a78c1c4c00a0577", func := "chase/chaselaw12.StackKnown", spec := "stackKnown", unfollowed := true, recurses := true, apart := false, narrowed := true }
def StackKnownUptoSaid : Prop := stackKnownUptoRow.holds Try.pinned (OpenSpec.upto stackKnownSpec)

/-- 'chaselaw12.StackHelps', WHERE WHAT IT READS IS OF BULK AT MOST 1048576: true; the input reads as it did. -/
def stackHelpsUptoRow : OpenClaim := { program := "ytiadenokcpnliaa", sum := "d18026f31366eff54b8a007838e218436ab2c531c1120b801a78c1c4c00a0577", func := "chase/chaselaw12.StackHelps", spec := "stackHelps", unfollowed := true, recurses := true, loops := true, apart := false, narrowed := true }
def StackHelpsUptoSaid : Prop := stackHelpsUptoRow.holds Try.pinned (OpenSpec.upto stackHelpsSpec)

/-- 'chaselaw12.StackDoes', WHERE WHAT IT READS IS OF BULK AT MOST 1048576: true; the input reads as it did. -/
def stackDoesUptoRow : OpenClaim := { program := "ytiadenokcpnliaa", sum := "d18026f31366eff54b8a007838e218436ab2c531c1120b801a78c1c4c00a0577", func := "chase/chaselaw12.StackDoes", spec := "stackDoes", unfollowed := true, recurses := true, loops := true, apart := false, narrowed := true }
def StackDoesUptoSaid : Prop := stackDoesUptoRow.holds Try.pinned (OpenSpec.upto stackDoesSpec)

end Rows
end Go.Proofs.Ytiadenokcpnliaa
