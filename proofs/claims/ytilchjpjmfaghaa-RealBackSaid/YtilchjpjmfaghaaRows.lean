/-
  No cell of these rows narrows 'for every input' (looked for: loops, veiled, ifaces, maps, wideKeys, modest, calm, conditions, laid).
  DERIVED. THE GIVEN ROWS OF THIS SEAT. 8 by the template 'for every input the law returns true; each argument reads behind the call as it read before'; 0 by the template 'total and deterministic' (their statements: YtilchjpjmfaghaaTotals.lean).
  GIVEN WITH THE SEED: the statements are not yours to turn. If you find one false, say at which input.
  Laid BY PROGRAM, IN A SANDBOX (cutbox-rows.mjs): the forced cells as the released guide's own fill.sh prints them over the translation 8ffb2696b4cf040b… (all of the seat's roots in one cut). By AI agents, Wed Nov 11 2026. No macro, syntax, notation, axiom, sorry.
-/
import Derived.Test.YtilchjpjmfaghaaChecked
import GoSem.Claim
import GoSem.ClaimJoined
import GoSem.ClaimMapViews
import Derived.JoinedTies
import Derived.KernelRfl
namespace Go.Proofs.Ytilchjpjmfaghaa
/- THE CELL 'sum', in the pinned program and in every row, IS THE sha256 OF THE DUMP (.gsa) THAT YtilchjpjmfaghaaProg.lean LOADS. Nothing in Lean hashes anything: it is a label: what it is worth is what the hold of that sum in a sandbox is worth. -/
noncomputable def Try.pinned : Pinned := { name := "ytilchjpjmfaghaa", sum := "8ffb2696b4cf040bb86cbc58d166b8f97319dec0d00e26c70908b385c57d653e", checked := Try.checked }
namespace Rows
def none {H : Type} : Left H := { results := [], args := [] }

/-- 'chaselaw01.RealProducts': WHATEVER THE INPUT: true; the input reads as it did. -/
def realProductsSpec : ChangeSpec := { name := "realProducts", fn := fun _ => fun
  | [d1, d2] => { results := [.lit (.bool true)], args := [d1, d2] }
  | _ => none }
def realProductsRow : OpenClaim := { program := "ytilchjpjmfaghaa", sum := "8ffb2696b4cf040bb86cbc58d166b8f97319dec0d00e26c70908b385c57d653e", func := "chase/chaselaw01.RealProducts", spec := "realProducts", inPlace := ["internal/abi.NoEscape"], unfollowed := true, recurses := true, apart := false }
def RealProductsSaid : Prop := realProductsRow.holds Try.pinned (OpenSpec.ofChange realProductsSpec)

/-- ITS FALSE NEIGHBOUR: 'it returns false'. Refute it at one input. -/
def realProductsWrong : ChangeSpec := { name := "realProducts", fn := fun _ => fun
  | [d1, d2] => { results := [.lit (.bool false)], args := [d1, d2] }
  | _ => none }
def RealProductsWrongFalsely : Prop := realProductsRow.holds Try.pinned (OpenSpec.ofChange realProductsWrong)

/-- 'chaselaw01.RealTexts': WHATEVER THE INPUT: true; the input reads as it did. -/
def realTextsSpec : ChangeSpec := { name := "realTexts", fn := fun _ => fun
  | [d1, d2, d3, d4] => { results := [.lit (.bool true)], args := [d1, d2, d3, d4] }
  | _ => none }
def realTextsRow : OpenClaim := { program := "ytilchjpjmfaghaa", sum := "8ffb2696b4cf040bb86cbc58d166b8f97319dec0d00e26c70908b385c57d653e", func := "chase/chaselaw01.RealTexts", spec := "realTexts", inPlace := ["internal/abi.NoEscape"], unfollowed := true, recurses := true, apart := false }
def RealTextsSaid : Prop := realTextsRow.holds Try.pinned (OpenSpec.ofChange realTextsSpec)

/-- ITS FALSE NEIGHBOUR: 'it returns false'. Refute it at one input. -/
def realTextsWrong : ChangeSpec := { name := "realTexts", fn := fun _ => fun
  | [d1, d2, d3, d4] => { results := [.lit (.bool false)], args := [d1, d2, d3, d4] }
  | _ => none }
def RealTextsWrongFalsely : Prop := realTextsRow.holds Try.pinned (OpenSpec.ofChange realTextsWrong)

/-- 'chaselaw01.RealBack': WHATEVER THE INPUT: true; the input reads as it did. -/
def realBackSpec : ChangeSpec := { name := "realBack", fn := fun _ => fun
  | [d1, d2] => { results := [.lit (.bool true)], args := [d1, d2] }
  | _ => none }
def realBackRow : OpenClaim := { program := "ytilchjpjmfaghaa", sum := "8ffb2696b4cf040bb86cbc58d166b8f97319dec0d00e26c70908b385c57d653e", func := "chase/chaselaw01.RealBack", spec := "realBack", inPlace := ["internal/abi.NoEscape"], unfollowed := true, recurses := true, apart := false }
def RealBackSaid : Prop := realBackRow.holds Try.pinned (OpenSpec.ofChange realBackSpec)

/-- ITS FALSE NEIGHBOUR: 'it returns false'. Refute it at one input. -/
def realBackWrong : ChangeSpec := { name := "realBack", fn := fun _ => fun
  | [d1, d2] => { results := [.lit (.bool false)], args := [d1, d2] }
  | _ => none }
def RealBackWrongFalsely : Prop := realBackRow.holds Try.pinned (OpenSpec.ofChange realBackWrong)

/-- 'chaselaw01.RealKnown': WHATEVER THE INPUT: true; the input reads as it did. -/
def realKnownSpec : ChangeSpec := { name := "realKnown", fn := fun _ => fun
  | [] => { results := [.lit (.bool true)], args := [] }
  | _ => none }
def realKnownRow : OpenClaim := { program := "ytilchjpjmfaghaa", sum := "8ffb2696b4cf040bb86cbc58d166b8f97319dec0d00e26c70908b385c57d653e", func := "chase/chaselaw01.RealKnown", spec := "realKnown", inPlace := ["internal/abi.NoEscape"], unfollowed := true, recurses := true, apart := false }
def RealKnownSaid : Prop := realKnownRow.holds Try.pinned (OpenSpec.ofChange realKnownSpec)

/-- ITS FALSE NEIGHBOUR: 'it returns false'. Refute it at one input. -/
def realKnownWrong : ChangeSpec := { name := "realKnown", fn := fun _ => fun
  | [] => { results := [.lit (.bool false)], args := [] }
  | _ => none }
def RealKnownWrongFalsely : Prop := realKnownRow.holds Try.pinned (OpenSpec.ofChange realKnownWrong)

/-- 'chaselaw01.RealSums': WHATEVER THE INPUT: true; the input reads as it did. -/
def realSumsSpec : ChangeSpec := { name := "realSums", fn := fun _ => fun
  | [d1, d2] => { results := [.lit (.bool true)], args := [d1, d2] }
  | _ => none }
def realSumsRow : OpenClaim := { program := "ytilchjpjmfaghaa", sum := "8ffb2696b4cf040bb86cbc58d166b8f97319dec0d00e26c70908b385c57d653e", func := "chase/chaselaw01.RealSums", spec := "realSums", inPlace := ["internal/abi.NoEscape"], unfollowed := true, recurses := true, apart := false }
def RealSumsSaid : Prop := realSumsRow.holds Try.pinned (OpenSpec.ofChange realSumsSpec)

/-- ITS FALSE NEIGHBOUR: 'it returns false'. Refute it at one input. -/
def realSumsWrong : ChangeSpec := { name := "realSums", fn := fun _ => fun
  | [d1, d2] => { results := [.lit (.bool false)], args := [d1, d2] }
  | _ => none }
def RealSumsWrongFalsely : Prop := realSumsRow.holds Try.pinned (OpenSpec.ofChange realSumsWrong)

/-- 'chaselaw01.RealField': WHATEVER THE INPUT: true; the input reads as it did. -/
def realFieldSpec : ChangeSpec := { name := "realField", fn := fun _ => fun
  | [d1, d2] => { results := [.lit (.bool true)], args := [d1, d2] }
  | _ => none }
def realFieldRow : OpenClaim := { program := "ytilchjpjmfaghaa", sum := "8ffb2696b4cf040bb86cbc58d166b8f97319dec0d00e26c70908b385c57d653e", func := "chase/chaselaw01.RealField", spec := "realField", inPlace := ["internal/abi.NoEscape"], unfollowed := true, recurses := true, apart := false }
def RealFieldSaid : Prop := realFieldRow.holds Try.pinned (OpenSpec.ofChange realFieldSpec)

/-- ITS FALSE NEIGHBOUR: 'it returns false'. Refute it at one input. -/
def realFieldWrong : ChangeSpec := { name := "realField", fn := fun _ => fun
  | [d1, d2] => { results := [.lit (.bool false)], args := [d1, d2] }
  | _ => none }
def RealFieldWrongFalsely : Prop := realFieldRow.holds Try.pinned (OpenSpec.ofChange realFieldWrong)

/-- 'chaselaw01.RealRounds': WHATEVER THE INPUT: true; the input reads as it did. -/
def realRoundsSpec : ChangeSpec := { name := "realRounds", fn := fun _ => fun
  | [d] => { results := [.lit (.bool true)], args := [d] }
  | _ => none }
def realRoundsRow : OpenClaim := { program := "ytilchjpjmfaghaa", sum := "8ffb2696b4cf040bb86cbc58d166b8f97319dec0d00e26c70908b385c57d653e", func := "chase/chaselaw01.RealRounds", spec := "realRounds", inPlace := ["internal/abi.NoEscape"], unfollowed := true, recurses := true, apart := false }
def RealRoundsSaid : Prop := realRoundsRow.holds Try.pinned (OpenSpec.ofChange realRoundsSpec)

/-- ITS FALSE NEIGHBOUR: 'it returns false'. Refute it at one input. -/
def realRoundsWrong : ChangeSpec := { name := "realRounds", fn := fun _ => fun
  | [d] => { results := [.lit (.bool false)], args := [d] }
  | _ => none }
def RealRoundsWrongFalsely : Prop := realRoundsRow.holds Try.pinned (OpenSpec.ofChange realRoundsWrong)

/-- 'chaselaw01.RealOrders': WHATEVER THE INPUT: true; the input reads as it did. -/
def realOrdersSpec : ChangeSpec := { name := "realOrders", fn := fun _ => fun
  | [d] => { results := [.lit (.bool true)], args := [d] }
  | _ => none }
def realOrdersRow : OpenClaim := { program := "ytilchjpjmfaghaa", sum := "8ffb2696b4cf040bb86cbc58d166b8f97319dec0d00e26c70908b385c57d653e", func := "chase/chaselaw01.RealOrders", spec := "realOrders", inPlace := ["internal/abi.NoEscape"], unfollowed := true, recurses := true, apart := false }
def RealOrdersSaid : Prop := realOrdersRow.holds Try.pinned (OpenSpec.ofChange realOrdersSpec)

/-- ITS FALSE NEIGHBOUR: 'it returns false'. Refute it at one input. -/
def realOrdersWrong : ChangeSpec := { name := "realOrders", fn := fun _ => fun
  | [d] => { results := [.lit (.bool false)], args := [d] }
  | _ => none }
def RealOrdersWrongFalsely : Prop := realOrdersRow.holds Try.pinned (OpenSpec.ofChange realOrdersWrong)

/- THE SECOND FORM. 'bulk': how many values and letters a reading holds, each counted each time it is reached (what is shared counts as often as it is met; a slice's spare places count too). A statement '..UptoSaid' is the law's where the arguments, and the package variables that the reading takes, are together of bulk at most 1048576: NARROWER than '..Said'. Prove '..Said' where nothing that the law and all that it calls make is longer than what came in: it says more and counts as full. Else prove '..UptoSaid'. A law counts once. -/
mutual
def uptoBulk {H : Type} : DataW H → Nat
  | .lit (.string bytes) => bytes.length + 1
  | .lit _ => 1
  | .nil => 1
  | .ptr d => uptoBulk d + 1
  | .slice elems spare => uptoBulkAll elems + uptoBulkAll spare + 1
  | .agg parts => uptoBulkAll parts + 1
  | .iface _ d => uptoBulk d + 1
  | .map entries => uptoBulkEntries entries + 1
  | .held _ => 1
def uptoBulkAll {H : Type} : List (DataW H) → Nat
  | [] => 0
  | d :: r => uptoBulk d + uptoBulkAll r
def uptoBulkEntries {H : Type} : List (Lit × DataW H) → Nat
  | [] => 0
  | x :: r => uptoBulkEntry x + uptoBulkEntries r
def uptoBulkEntry {H : Type} : Lit × DataW H → Nat
  | (.string bytes, d) => bytes.length + uptoBulk d + 1
  | (_, d) => uptoBulk d + 1
 end
def uptoSmall : (H : Type) → List (DataW H) → Bool := fun _ ds => decide (uptoBulkAll ds ≤ 1048576)
def OpenSpec.upto (s : _root_.Go.ChangeSpec) : _root_.Go.OpenSpec := { _root_.Go.OpenSpec.ofChange s with cond := some uptoSmall }

/-- 'chaselaw01.RealProducts', WHERE WHAT IT READS IS OF BULK AT MOST 1048576: true; the input reads as it did. -/
def realProductsUptoRow : OpenClaim := { program := "ytilchjpjmfaghaa", sum := "8ffb2696b4cf040bb86cbc58d166b8f97319dec0d00e26c70908b385c57d653e", func := "chase/chaselaw01.RealProducts", spec := "realProducts", inPlace := ["internal/abi.NoEscape"], unfollowed := true, recurses := true, apart := false, narrowed := true }
def RealProductsUptoSaid : Prop := realProductsUptoRow.holds Try.pinned (OpenSpec.upto realProductsSpec)

/-- 'chaselaw01.RealTexts', WHERE WHAT IT READS IS OF BULK AT MOST 1048576: true; the input reads as it did. -/
def realTextsUptoRow : OpenClaim := { program := "ytilchjpjmfaghaa", sum := "8ffb2696b4cf040bb86cbc58d166b8f97319dec0d00e26c70908b385c57d653e", func := "chase/chaselaw01.RealTexts", spec := "realTexts", inPlace := ["internal/abi.NoEscape"], unfollowed := true, recurses := true, apart := false, narrowed := true }
def RealTextsUptoSaid : Prop := realTextsUptoRow.holds Try.pinned (OpenSpec.upto realTextsSpec)

/-- 'chaselaw01.RealBack', WHERE WHAT IT READS IS OF BULK AT MOST 1048576: true; the input reads as it did. -/
def realBackUptoRow : OpenClaim := { program := "ytilchjpjmfaghaa", sum := "8ffb2696b4cf040bb86cbc58d166b8f97319dec0d00e26c70908b385c57d653e", func := "chase/chaselaw01.RealBack", spec := "realBack", inPlace := ["internal/abi.NoEscape"], unfollowed := true, recurses := true, apart := false, narrowed := true }
def RealBackUptoSaid : Prop := realBackUptoRow.holds Try.pinned (OpenSpec.upto realBackSpec)

/-- 'chaselaw01.RealKnown', WHERE WHAT IT READS IS OF BULK AT MOST 1048576: true; the input reads as it did. -/
def realKnownUptoRow : OpenClaim := { program := "ytilchjpjmfaghaa", sum := "8ffb2696b4cf040bb86cbc58d166b8f97319dec0d00e26c70908b385c57d653e", func := "chase/chaselaw01.RealKnown", spec := "realKnown", inPlace := ["internal/abi.NoEscape"], unfollowed := true, recurses := true, apart := false, narrowed := true }
def RealKnownUptoSaid : Prop := realKnownUptoRow.holds Try.pinned (OpenSpec.upto realKnownSpec)

/-- 'chaselaw01.RealSums', WHERE WHAT IT READS IS OF BULK AT MOST 1048576: true; the input reads as it did. -/
def realSumsUptoRow : OpenClaim := { program := "ytilchjpjmfaghaa", sum := "8ffb2696b4cf040bb86cbc58d166b8f97319dec0d00e26c70908b385c57d653e", func := "chase/chaselaw01.RealSums", spec := "realSums", inPlace := ["internal/abi.NoEscape"], unfollowed := true, recurses := true, apart := false, narrowed := true }
def RealSumsUptoSaid : Prop := realSumsUptoRow.holds Try.pinned (OpenSpec.upto realSumsSpec)

/-- 'chaselaw01.RealField', WHERE WHAT IT READS IS OF BULK AT MOST 1048576: true; the input reads as it did. -/
def realFieldUptoRow : OpenClaim := { program := "ytilchjpjmfaghaa", sum := "8ffb2696b4cf040bb86cbc58d166b8f97319dec0d00e26c70908b385c57d653e", func := "chase/chaselaw01.RealField", spec := "realField", inPlace := ["internal/abi.NoEscape"], unfollowed := true, recurses := true, apart := false, narrowed := true }
def RealFieldUptoSaid : Prop := realFieldUptoRow.holds Try.pinned (OpenSpec.upto realFieldSpec)

/-- 'chaselaw01.RealRounds', WHERE WHAT IT READS IS OF BULK AT MOST 1048576: true; the input reads as it did. -/
def realRoundsUptoRow : OpenClaim := { program := "ytilchjpjmfaghaa", sum := "8ffb2696b4cf040bb86cbc58d166b8f97319dec0d00e26c70908b385c57d653e", func := "chase/chaselaw01.RealRounds", spec := "realRounds", inPlace := ["internal/abi.NoEscape"], unfollowed := true, recurses := true, apart := false, narrowed := true }
def RealRoundsUptoSaid : Prop := realRoundsUptoRow.holds Try.pinned (OpenSpec.upto realRoundsSpec)

/-- 'chaselaw01.RealOrders', WHERE WHAT IT READS IS OF BULK AT MOST 1048576: true; the input reads as it did. -/
def realOrdersUptoRow : OpenClaim := { program := "ytilchjpjmfaghaa", sum := "8ffb2696b4cf040bb86cbc58d166b8f97319dec0d00e26c70908b385c57d653e", func := "chase/chaselaw01.RealOrders", spec := "realOrders", inPlace := ["internal/abi.NoEscape"], unfollowed := true, recurses := true, apart := false, narrowed := true }
def RealOrdersUptoSaid : Prop := realOrdersUptoRow.holds Try.pinned (OpenSpec.upto realOrdersSpec)

end Rows
end Go.Proofs.Ytilchjpjmfaghaa
