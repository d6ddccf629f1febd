/-
  No cell of these rows narrows 'for every input' (looked for: loops, veiled, ifaces, maps, wideKeys, modest, calm, conditions, laid).
  DERIVED. THE GIVEN ROWS OF THIS SEAT. 8 by the template 'for every input the law returns true; each argument reads behind the call as it read before'; 0 by the template 'total and deterministic' (their statements: YticbjpficaaaiaaTotals.lean).
  GIVEN WITH THE SEED: the statements are not yours to turn. If you find one false, say at which input.
  Laid BY PROGRAM, IN A SANDBOX (cutbox-rows.mjs): the forced cells as the released guide's own fill.sh prints them over the translation 35b75c349f200fa2… (all of the seat's roots in one cut). By AI agents, Wed Nov 11 2026. No macro, syntax, notation, axiom, sorry.
-/
import Derived.Test.YticbjpficaaaiaaChecked
import GoSem.Claim
import GoSem.ClaimJoined
import GoSem.ClaimMapViews
import Derived.JoinedTies
import Derived.KernelRfl
namespace Go.Proofs.Yticbjpficaaaiaa
/- THE CELL 'sum', in the pinned program and in every row, IS THE sha256 OF THE DUMP (.gsa) THAT YticbjpficaaaiaaProg.lean LOADS. Nothing in Lean hashes anything: it is a label: what it is worth is what the hold of that sum in a sandbox is worth. -/
noncomputable def Try.pinned : Pinned := { name := "yticbjpficaaaiaa", sum := "35b75c349f200fa2a485d374d97a7d788d8b24545213d400b1603e567bb9d1d5", checked := Try.checked }
namespace Rows
def none {H : Type} : Left H := { results := [], args := [] }

/-- 'chaselaw10.ObjectChecks': WHATEVER THE INPUT: true; the input reads as it did. -/
def objectChecksSpec : ChangeSpec := { name := "objectChecks", fn := fun _ => fun
  | [d] => { results := [.lit (.bool true)], args := [d] }
  | _ => none }
def objectChecksRow : OpenClaim := { program := "yticbjpficaaaiaa", sum := "35b75c349f200fa2a485d374d97a7d788d8b24545213d400b1603e567bb9d1d5", func := "chase/chaselaw10.ObjectChecks", spec := "objectChecks", unfollowed := true, recurses := true, apart := false }
def ObjectChecksSaid : Prop := objectChecksRow.holds Try.pinned (OpenSpec.ofChange objectChecksSpec)

/-- ITS FALSE NEIGHBOUR: 'it returns false'. Refute it at one input. -/
def objectChecksWrong : ChangeSpec := { name := "objectChecks", fn := fun _ => fun
  | [d] => { results := [.lit (.bool false)], args := [d] }
  | _ => none }
def ObjectChecksWrongFalsely : Prop := objectChecksRow.holds Try.pinned (OpenSpec.ofChange objectChecksWrong)

/-- 'chaselaw10.ObjectNumbers': WHATEVER THE INPUT: true; the input reads as it did. -/
def objectNumbersSpec : ChangeSpec := { name := "objectNumbers", fn := fun _ => fun
  | [d1, d2] => { results := [.lit (.bool true)], args := [d1, d2] }
  | _ => none }
def objectNumbersRow : OpenClaim := { program := "yticbjpficaaaiaa", sum := "35b75c349f200fa2a485d374d97a7d788d8b24545213d400b1603e567bb9d1d5", func := "chase/chaselaw10.ObjectNumbers", spec := "objectNumbers", unfollowed := true, recurses := true, apart := false }
def ObjectNumbersSaid : Prop := objectNumbersRow.holds Try.pinned (OpenSpec.ofChange objectNumbersSpec)

/-- ITS FALSE NEIGHBOUR: 'it returns false'. Refute it at one input. -/
def objectNumbersWrong : ChangeSpec := { name := "objectNumbers", fn := fun _ => fun
  | [d1, d2] => { results := [.lit (.bool false)], args := [d1, d2] }
  | _ => none }
def ObjectNumbersWrongFalsely : Prop := objectNumbersRow.holds Try.pinned (OpenSpec.ofChange objectNumbersWrong)

/-- 'chaselaw10.ObjectKeys': WHATEVER THE INPUT: true; the input reads as it did. -/
def objectKeysSpec : ChangeSpec := { name := "objectKeys", fn := fun _ => fun
  | [d] => { results := [.lit (.bool true)], args := [d] }
  | _ => none }
def objectKeysRow : OpenClaim := { program := "yticbjpficaaaiaa", sum := "35b75c349f200fa2a485d374d97a7d788d8b24545213d400b1603e567bb9d1d5", func := "chase/chaselaw10.ObjectKeys", spec := "objectKeys", unfollowed := true, recurses := true, apart := false }
def ObjectKeysSaid : Prop := objectKeysRow.holds Try.pinned (OpenSpec.ofChange objectKeysSpec)

/-- ITS FALSE NEIGHBOUR: 'it returns false'. Refute it at one input. -/
def objectKeysWrong : ChangeSpec := { name := "objectKeys", fn := fun _ => fun
  | [d] => { results := [.lit (.bool false)], args := [d] }
  | _ => none }
def ObjectKeysWrongFalsely : Prop := objectKeysRow.holds Try.pinned (OpenSpec.ofChange objectKeysWrong)

/-- 'chaselaw10.ObjectOrders': WHATEVER THE INPUT: true; the input reads as it did. -/
def objectOrdersSpec : ChangeSpec := { name := "objectOrders", fn := fun _ => fun
  | [d1, d2] => { results := [.lit (.bool true)], args := [d1, d2] }
  | _ => none }
def objectOrdersRow : OpenClaim := { program := "yticbjpficaaaiaa", sum := "35b75c349f200fa2a485d374d97a7d788d8b24545213d400b1603e567bb9d1d5", func := "chase/chaselaw10.ObjectOrders", spec := "objectOrders", unfollowed := true, recurses := true, apart := false }
def ObjectOrdersSaid : Prop := objectOrdersRow.holds Try.pinned (OpenSpec.ofChange objectOrdersSpec)

/-- ITS FALSE NEIGHBOUR: 'it returns false'. Refute it at one input. -/
def objectOrdersWrong : ChangeSpec := { name := "objectOrders", fn := fun _ => fun
  | [d1, d2] => { results := [.lit (.bool false)], args := [d1, d2] }
  | _ => none }
def ObjectOrdersWrongFalsely : Prop := objectOrdersRow.holds Try.pinned (OpenSpec.ofChange objectOrdersWrong)

/-- 'chaselaw10.ObjectTurns': WHATEVER THE INPUT: true; the input reads as it did. -/
def objectTurnsSpec : ChangeSpec := { name := "objectTurns", fn := fun _ => fun
  | [d1, d2] => { results := [.lit (.bool true)], args := [d1, d2] }
  | _ => none }
def objectTurnsRow : OpenClaim := { program := "yticbjpficaaaiaa", sum := "35b75c349f200fa2a485d374d97a7d788d8b24545213d400b1603e567bb9d1d5", func := "chase/chaselaw10.ObjectTurns", spec := "objectTurns", unfollowed := true, recurses := true, apart := false }
def ObjectTurnsSaid : Prop := objectTurnsRow.holds Try.pinned (OpenSpec.ofChange objectTurnsSpec)

/-- ITS FALSE NEIGHBOUR: 'it returns false'. Refute it at one input. -/
def objectTurnsWrong : ChangeSpec := { name := "objectTurns", fn := fun _ => fun
  | [d1, d2] => { results := [.lit (.bool false)], args := [d1, d2] }
  | _ => none }
def ObjectTurnsWrongFalsely : Prop := objectTurnsRow.holds Try.pinned (OpenSpec.ofChange objectTurnsWrong)

/-- 'chaselaw10.ObjectAlike': WHATEVER THE INPUT: true; the input reads as it did. -/
def objectAlikeSpec : ChangeSpec := { name := "objectAlike", fn := fun _ => fun
  | [d] => { results := [.lit (.bool true)], args := [d] }
  | _ => none }
def objectAlikeRow : OpenClaim := { program := "yticbjpficaaaiaa", sum := "35b75c349f200fa2a485d374d97a7d788d8b24545213d400b1603e567bb9d1d5", func := "chase/chaselaw10.ObjectAlike", spec := "objectAlike", unfollowed := true, recurses := true, apart := false }
def ObjectAlikeSaid : Prop := objectAlikeRow.holds Try.pinned (OpenSpec.ofChange objectAlikeSpec)

/-- ITS FALSE NEIGHBOUR: 'it returns false'. Refute it at one input. -/
def objectAlikeWrong : ChangeSpec := { name := "objectAlike", fn := fun _ => fun
  | [d] => { results := [.lit (.bool false)], args := [d] }
  | _ => none }
def ObjectAlikeWrongFalsely : Prop := objectAlikeRow.holds Try.pinned (OpenSpec.ofChange objectAlikeWrong)

/-- 'chaselaw10.ObjectKnown': WHATEVER THE INPUT: true; the input reads as it did. -/
def objectKnownSpec : ChangeSpec := { name := "objectKnown", fn := fun _ => fun
  | [] => { results := [.lit (.bool true)], args := [] }
  | _ => none }
def objectKnownRow : OpenClaim := { program := "yticbjpficaaaiaa", sum := "35b75c349f200fa2a485d374d97a7d788d8b24545213d400b1603e567bb9d1d5", func := "chase/chaselaw10.ObjectKnown", spec := "objectKnown", unfollowed := true, recurses := true, apart := false }
def ObjectKnownSaid : Prop := objectKnownRow.holds Try.pinned (OpenSpec.ofChange objectKnownSpec)

/-- ITS FALSE NEIGHBOUR: 'it returns false'. Refute it at one input. -/
def objectKnownWrong : ChangeSpec := { name := "objectKnown", fn := fun _ => fun
  | [] => { results := [.lit (.bool false)], args := [] }
  | _ => none }
def ObjectKnownWrongFalsely : Prop := objectKnownRow.holds Try.pinned (OpenSpec.ofChange objectKnownWrong)

/-- 'chaselaw10.ObjectMakes': WHATEVER THE INPUT: true; the input reads as it did. -/
def objectMakesSpec : ChangeSpec := { name := "objectMakes", fn := fun _ => fun
  | [d1, d2, d3] => { results := [.lit (.bool true)], args := [d1, d2, d3] }
  | _ => none }
def objectMakesRow : OpenClaim := { program := "yticbjpficaaaiaa", sum := "35b75c349f200fa2a485d374d97a7d788d8b24545213d400b1603e567bb9d1d5", func := "chase/chaselaw10.ObjectMakes", spec := "objectMakes", unfollowed := true, recurses := true, apart := false }
def ObjectMakesSaid : Prop := objectMakesRow.holds Try.pinned (OpenSpec.ofChange objectMakesSpec)

/-- ITS FALSE NEIGHBOUR: 'it returns false'. Refute it at one input. -/
def objectMakesWrong : ChangeSpec := { name := "objectMakes", fn := fun _ => fun
  | [d1, d2, d3] => { results := [.lit (.bool false)], args := [d1, d2, d3] }
  | _ => none }
def ObjectMakesWrongFalsely : Prop := objectMakesRow.holds Try.pinned (OpenSpec.ofChange objectMakesWrong)

/- THE SECOND FORM. 'bulk': how many values and letters a reading holds, each counted each time it is reached (what is shared counts as often as it is met; a slice's spare places count too). A statement '..UptoSaid' is the law's where the arguments, and the package variables that the reading takes, are together of bulk at most 1048576: NARROWER than '..Said'. Prove '..Said' where nothing that the law and all that it calls make is longer than what came in: it says more and counts as full. Else prove '..UptoSaid'. A law counts once. -/
mutual
def uptoBulk {H : Type} : DataW H → Nat
  | .lit (.string bytes) => bytes.length + 1
  | .lit _ => 1
  | .nil => 1
  | .ptr d => uptoBulk d + 1
  | .slice elems spare => uptoBulkAll elems + uptoBulkAll spare + 1
  | .agg parts => uptoBulkAll parts + 1
  | .iface _ d => uptoBulk d + 1
  | .map entries => uptoBulkEntries entries + 1
  | .held _ => 1
def uptoBulkAll {H : Type} : List (DataW H) → Nat
  | [] => 0
  | d :: r => uptoBulk d + uptoBulkAll r
def uptoBulkEntries {H : Type} : List (Lit × DataW H) → Nat
  | [] => 0
  | x :: r => uptoBulkEntry x + uptoBulkEntries r
def uptoBulkEntry {H : Type} : Lit × DataW H → Nat
  | (.string bytes, d) => bytes.length + uptoBulk d + 1
  | (_, d) => uptoBulk d + 1
 end
def uptoSmall : (H : Type) → List (DataW H) → Bool := fun _ ds => decide (uptoBulkAll ds ≤ 1048576)
def OpenSpec.upto (s : _root_.Go.ChangeSpec) : _root_.Go.OpenSpec := { _root_.Go.OpenSpec.ofChange s with cond := some uptoSmall }

/-- 'chaselaw10.ObjectChecks', WHERE WHAT IT READS IS OF BULK AT MOST 1048576: true; the input reads as it did. -/
def objectChecksUptoRow : OpenClaim := { program := "yticbjpficaaaiaa", sum := "35b75c349f200fa2a485d374d97a7d788d8b24545213d400b1603e567bb9d1d5", func := "chase/chaselaw10.ObjectChecks", spec := "objectChecks", unfollowed := true, recurses := true, apart := false, narrowed := true }
def ObjectChecksUptoSaid : Prop := objectChecksUptoRow.holds Try.pinned (OpenSpec.upto objectChecksSpec)

/-- 'chaselaw10.ObjectNumbers', WHERE WHAT IT READS IS OF BULK AT MOST 1048576: true; the input reads as it did. -/
def objectNumbersUptoRow : OpenClaim := { program := "yticbjpficaaaiaa", sum := "35b75c349f200fa2a485d374d97a7d788d8b24545213d400b1603e567bb9d1d5", func := "chase/chaselaw10.ObjectNumbers", spec := "objectNumbers", unfollowed := true, recurses := true, apart := false, narrowed := true }
def ObjectNumbersUptoSaid : Prop := objectNumbersUptoRow.holds Try.pinned (OpenSpec.upto objectNumbersSpec)

/-- 'chaselaw10.ObjectKeys', WHERE WHAT IT READS IS OF BULK AT MOST 1048576: true; the input reads as it did. -/
def objectKeysUptoRow : OpenClaim := { program := "yticbjpficaaaiaa", sum := "35b75c349f200fa2a485d374d97a7d788d8b24545213d400b1603e567bb9d1d5", func := "chase/chaselaw10.ObjectKeys", spec := "objectKeys", unfollowed := true, recurses := true, apart := false, narrowed := true }
def ObjectKeysUptoSaid : Prop := objectKeysUptoRow.holds Try.pinned (OpenSpec.upto objectKeysSpec)

/-- 'chaselaw10.ObjectOrders', WHERE WHAT IT READS IS OF BULK AT MOST 1048576: true; the input reads as it did. -/
def objectOrdersUptoRow : OpenClaim := { program := "yticbjpficaaaiaa", sum := "35b75c349f200fa2a485d374d97a7d788d8b24545213d400b1603e567bb9d1d5", func := "chase/chaselaw10.ObjectOrders", spec := "objectOrders", unfollowed := true, recurses := true, apart := false, narrowed := true }
def ObjectOrdersUptoSaid : Prop := objectOrdersUptoRow.holds Try.pinned (OpenSpec.upto objectOrdersSpec)

/-- 'chaselaw10.ObjectTurns', WHERE WHAT IT READS IS OF BULK AT MOST 1048576: true; the input reads as it did. -/
def objectTurnsUptoRow : OpenClaim := { program := "yticbjpficaaaiaa", sum := "35b75c349f200fa2a485d374d97a7d788d8b24545213d400b1603e567bb9d1d5", func := "chase/chaselaw10.ObjectTurns", spec := "objectTurns", unfollowed := true, recurses := true, apart := false, narrowed := true }
def ObjectTurnsUptoSaid : Prop := objectTurnsUptoRow.holds Try.pinned (OpenSpec.upto objectTurnsSpec)

/-- 'chaselaw10.ObjectAlike', WHERE WHAT IT READS IS OF BULK AT MOST 1048576: true; the input reads as it did. -/
def objectAlikeUptoRow : OpenClaim := { program := "yticbjpficaaaiaa", sum := "35b75c349f200fa2a485d374d97a7d788d8b24545213d400b1603e567bb9d1d5", func := "chase/chaselaw10.ObjectAlike", spec := "objectAlike", unfollowed := true, recurses := true, apart := false, narrowed := true }
def ObjectAlikeUptoSaid : Prop := objectAlikeUptoRow.holds Try.pinned (OpenSpec.upto objectAlikeSpec)

/-- 'chaselaw10.ObjectKnown', WHERE WHAT IT READS IS OF BULK AT MOST 1048576: true; the input reads as it did. -/
def objectKnownUptoRow : OpenClaim := { program := "yticbjpficaaaiaa", sum := "35b75c349f200fa2a485d374d97a7d788d8b24545213d400b1603e567bb9d1d5", func := "chase/chaselaw10.ObjectKnown", spec := "objectKnown", unfollowed := true, recurses := true, apart := false, narrowed := true }
def ObjectKnownUptoSaid : Prop := objectKnownUptoRow.holds Try.pinned (OpenSpec.upto objectKnownSpec)

/-- 'chaselaw10.ObjectMakes', WHERE WHAT IT READS IS OF BULK AT MOST 1048576: true; the input reads as it did. -/
def objectMakesUptoRow : OpenClaim := { program := "yticbjpficaaaiaa", sum := "35b75c349f200fa2a485d374d97a7d788d8b24545213d400b1603e567bb9d1d5", func := "chase/chaselaw10.ObjectMakes", spec := "objectMakes", unfollowed := true, recurses := true, apart := false, narrowed := true }
def ObjectMakesUptoSaid : Prop := objectMakesUptoRow.holds Try.pinned (OpenSpec.upto objectMakesSpec)

end Rows
end Go.Proofs.Yticbjpficaaaiaa
