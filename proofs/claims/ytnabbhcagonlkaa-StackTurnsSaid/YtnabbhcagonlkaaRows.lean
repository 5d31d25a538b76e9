/-
  No cell of these rows narrows 'for every input' (looked for: loops, veiled, ifaces, maps, wideKeys, modest, calm, conditions, laid).
  DERIVED. THE GIVEN ROWS OF THIS SEAT. 11 by the template 'for every input the law returns true; each argument reads behind the call as it read before'; 0 by the template 'total and deterministic' (their statements: YtnabbhcagonlkaaTotals.lean).
  GIVEN WITH THE SEED: the statements are not yours to turn. If you find one false, say at which input.
  Laid BY PROGRAM, IN A SANDBOX (cutbox-rows.mjs): the forced cells as the released guide's own fill.sh prints them over the translation b372d7922be66426… (all of the seat's roots in one cut). By AI agents, Wed Nov 11 2026. No macro, syntax, notation, axiom, sorry.
-/
import Derived.Test.YtnabbhcagonlkaaChecked
import GoSem.Claim
import GoSem.ClaimJoined
import GoSem.ClaimMapViews
import Derived.JoinedTies
import Derived.KernelRfl
namespace Go.Proofs.Ytnabbhcagonlkaa
/- THE CELL 'sum', in the pinned program and in every row, IS THE sha256 OF THE DUMP (.gsa) THAT YtnabbhcagonlkaaProg.lean LOADS. Nothing in Lean hashes anything: it is a label: what it is worth is what the hold of that sum in a sandbox is worth. -/
noncomputable def Try.pinned : Pinned := { name := "ytnabbhcagonlkaa", sum := "b372d7922be664264370a65af97041b5dec1adc8a1d99c59f9c498e9f59f0c67", checked := Try.checked }
namespace Rows
def none {H : Type} : Left H := { results := [], args := [] }

/-- 'easementlaw16.RelateChains': WHATEVER THE INPUT: true; the input reads as it did. -/
def relateChainsSpec : ChangeSpec := { name := "relateChains", fn := fun _ => fun
  | [d1, d2, d3] => { results := [.lit (.bool true)], args := [d1, d2, d3] }
  | _ => none }
def relateChainsRow : OpenClaim := { program := "ytnabbhcagonlkaa", sum := "b372d7922be664264370a65af97041b5dec1adc8a1d99c59f9c498e9f59f0c67", func := "easement/easementlaw16.RelateChains", spec := "relateChains", unfollowed := true, recurses := true, apart := false }
def RelateChainsSaid : Prop := relateChainsRow.holds Try.pinned (OpenSpec.ofChange relateChainsSpec)

/-- ITS FALSE NEIGHBOUR: 'it returns false'. Refute it at one input. -/
def relateChainsWrong : ChangeSpec := { name := "relateChains", fn := fun _ => fun
  | [d1, d2, d3] => { results := [.lit (.bool false)], args := [d1, d2, d3] }
  | _ => none }
def RelateChainsWrongFalsely : Prop := relateChainsRow.holds Try.pinned (OpenSpec.ofChange relateChainsWrong)

/-- 'easementlaw16.RelateHolds': WHATEVER THE INPUT: true; the input reads as it did. -/
def relateHoldsSpec : ChangeSpec := { name := "relateHolds", fn := fun _ => fun
  | [d1, d2] => { results := [.lit (.bool true)], args := [d1, d2] }
  | _ => none }
def relateHoldsRow : OpenClaim := { program := "ytnabbhcagonlkaa", sum := "b372d7922be664264370a65af97041b5dec1adc8a1d99c59f9c498e9f59f0c67", func := "easement/easementlaw16.RelateHolds", spec := "relateHolds", unfollowed := true, recurses := true, apart := false }
def RelateHoldsSaid : Prop := relateHoldsRow.holds Try.pinned (OpenSpec.ofChange relateHoldsSpec)

/-- ITS FALSE NEIGHBOUR: 'it returns false'. Refute it at one input. -/
def relateHoldsWrong : ChangeSpec := { name := "relateHolds", fn := fun _ => fun
  | [d1, d2] => { results := [.lit (.bool false)], args := [d1, d2] }
  | _ => none }
def RelateHoldsWrongFalsely : Prop := relateHoldsRow.holds Try.pinned (OpenSpec.ofChange relateHoldsWrong)

/-- 'easementlaw02.LebTakes': WHATEVER THE INPUT: true; the input reads as it did. -/
def lebTakesSpec : ChangeSpec := { name := "lebTakes", fn := fun _ => fun
  | [d] => { results := [.lit (.bool true)], args := [d] }
  | _ => none }
def lebTakesRow : OpenClaim := { program := "ytnabbhcagonlkaa", sum := "b372d7922be664264370a65af97041b5dec1adc8a1d99c59f9c498e9f59f0c67", func := "easement/easementlaw02.LebTakes", spec := "lebTakes", recurses := true, apart := false }
def LebTakesSaid : Prop := lebTakesRow.holds Try.pinned (OpenSpec.ofChange lebTakesSpec)

/-- ITS FALSE NEIGHBOUR: 'it returns false'. Refute it at one input. -/
def lebTakesWrong : ChangeSpec := { name := "lebTakes", fn := fun _ => fun
  | [d] => { results := [.lit (.bool false)], args := [d] }
  | _ => none }
def LebTakesWrongFalsely : Prop := lebTakesRow.holds Try.pinned (OpenSpec.ofChange lebTakesWrong)

/-- 'easementlaw02.LebBack': WHATEVER THE INPUT: true; the input reads as it did. -/
def lebBackSpec : ChangeSpec := { name := "lebBack", fn := fun _ => fun
  | [d1, d2, d3] => { results := [.lit (.bool true)], args := [d1, d2, d3] }
  | _ => none }
def lebBackRow : OpenClaim := { program := "ytnabbhcagonlkaa", sum := "b372d7922be664264370a65af97041b5dec1adc8a1d99c59f9c498e9f59f0c67", func := "easement/easementlaw02.LebBack", spec := "lebBack", apart := false }
def LebBackSaid : Prop := lebBackRow.holds Try.pinned (OpenSpec.ofChange lebBackSpec)

/-- ITS FALSE NEIGHBOUR: 'it returns false'. Refute it at one input. -/
def lebBackWrong : ChangeSpec := { name := "lebBack", fn := fun _ => fun
  | [d1, d2, d3] => { results := [.lit (.bool false)], args := [d1, d2, d3] }
  | _ => none }
def LebBackWrongFalsely : Prop := lebBackRow.holds Try.pinned (OpenSpec.ofChange lebBackWrong)

/-- 'easementlaw09.TickBounds': WHATEVER THE INPUT: true; the input reads as it did. -/
def tickBoundsSpec : ChangeSpec := { name := "tickBounds", fn := fun _ => fun
  | [d1, d2, d3, d4] => { results := [.lit (.bool true)], args := [d1, d2, d3, d4] }
  | _ => none }
def tickBoundsRow : OpenClaim := { program := "ytnabbhcagonlkaa", sum := "b372d7922be664264370a65af97041b5dec1adc8a1d99c59f9c498e9f59f0c67", func := "easement/easementlaw09.TickBounds", spec := "tickBounds", apart := false }
def TickBoundsSaid : Prop := tickBoundsRow.holds Try.pinned (OpenSpec.ofChange tickBoundsSpec)

/-- ITS FALSE NEIGHBOUR: 'it returns false'. Refute it at one input. -/
def tickBoundsWrong : ChangeSpec := { name := "tickBounds", fn := fun _ => fun
  | [d1, d2, d3, d4] => { results := [.lit (.bool false)], args := [d1, d2, d3, d4] }
  | _ => none }
def TickBoundsWrongFalsely : Prop := tickBoundsRow.holds Try.pinned (OpenSpec.ofChange tickBoundsWrong)

/-- 'easementlaw02.LebPuts': WHATEVER THE INPUT: true; the input reads as it did. -/
def lebPutsSpec : ChangeSpec := { name := "lebPuts", fn := fun _ => fun
  | [d1, d2] => { results := [.lit (.bool true)], args := [d1, d2] }
  | _ => none }
def lebPutsRow : OpenClaim := { program := "ytnabbhcagonlkaa", sum := "b372d7922be664264370a65af97041b5dec1adc8a1d99c59f9c498e9f59f0c67", func := "easement/easementlaw02.LebPuts", spec := "lebPuts", recurses := true, apart := false }
def LebPutsSaid : Prop := lebPutsRow.holds Try.pinned (OpenSpec.ofChange lebPutsSpec)

/-- ITS FALSE NEIGHBOUR: 'it returns false'. Refute it at one input. -/
def lebPutsWrong : ChangeSpec := { name := "lebPuts", fn := fun _ => fun
  | [d1, d2] => { results := [.lit (.bool false)], args := [d1, d2] }
  | _ => none }
def LebPutsWrongFalsely : Prop := lebPutsRow.holds Try.pinned (OpenSpec.ofChange lebPutsWrong)

/-- 'easementlaw07.StackQueues': WHATEVER THE INPUT: true; the input reads as it did. -/
def stackQueuesSpec : ChangeSpec := { name := "stackQueues", fn := fun _ => fun
  | [d] => { results := [.lit (.bool true)], args := [d] }
  | _ => none }
def stackQueuesRow : OpenClaim := { program := "ytnabbhcagonlkaa", sum := "b372d7922be664264370a65af97041b5dec1adc8a1d99c59f9c498e9f59f0c67", func := "easement/easementlaw07.StackQueues", spec := "stackQueues", apart := false }
def StackQueuesSaid : Prop := stackQueuesRow.holds Try.pinned (OpenSpec.ofChange stackQueuesSpec)

/-- ITS FALSE NEIGHBOUR: 'it returns false'. Refute it at one input. -/
def stackQueuesWrong : ChangeSpec := { name := "stackQueues", fn := fun _ => fun
  | [d] => { results := [.lit (.bool false)], args := [d] }
  | _ => none }
def StackQueuesWrongFalsely : Prop := stackQueuesRow.holds Try.pinned (OpenSpec.ofChange stackQueuesWrong)

/-- 'easementlaw09.TickCounts': WHATEVER THE INPUT: true; the input reads as it did. -/
def tickCountsSpec : ChangeSpec := { name := "tickCounts", fn := fun _ => fun
  | [d1, d2] => { results := [.lit (.bool true)], args := [d1, d2] }
  | _ => none }
def tickCountsRow : OpenClaim := { program := "ytnabbhcagonlkaa", sum := "b372d7922be664264370a65af97041b5dec1adc8a1d99c59f9c498e9f59f0c67", func := "easement/easementlaw09.TickCounts", spec := "tickCounts", apart := false }
def TickCountsSaid : Prop := tickCountsRow.holds Try.pinned (OpenSpec.ofChange tickCountsSpec)

/-- ITS FALSE NEIGHBOUR: 'it returns false'. Refute it at one input. -/
def tickCountsWrong : ChangeSpec := { name := "tickCounts", fn := fun _ => fun
  | [d1, d2] => { results := [.lit (.bool false)], args := [d1, d2] }
  | _ => none }
def TickCountsWrongFalsely : Prop := tickCountsRow.holds Try.pinned (OpenSpec.ofChange tickCountsWrong)

/-- 'easementlaw16.RelateNeeds': WHATEVER THE INPUT: true; the input reads as it did. -/
def relateNeedsSpec : ChangeSpec := { name := "relateNeeds", fn := fun _ => fun
  | [d1, d2, d3, d4, d5, d6] => { results := [.lit (.bool true)], args := [d1, d2, d3, d4, d5, d6] }
  | _ => none }
def relateNeedsRow : OpenClaim := { program := "ytnabbhcagonlkaa", sum := "b372d7922be664264370a65af97041b5dec1adc8a1d99c59f9c498e9f59f0c67", func := "easement/easementlaw16.RelateNeeds", spec := "relateNeeds", unfollowed := true, recurses := true, apart := false }
def RelateNeedsSaid : Prop := relateNeedsRow.holds Try.pinned (OpenSpec.ofChange relateNeedsSpec)

/-- ITS FALSE NEIGHBOUR: 'it returns false'. Refute it at one input. -/
def relateNeedsWrong : ChangeSpec := { name := "relateNeeds", fn := fun _ => fun
  | [d1, d2, d3, d4, d5, d6] => { results := [.lit (.bool false)], args := [d1, d2, d3, d4, d5, d6] }
  | _ => none }
def RelateNeedsWrongFalsely : Prop := relateNeedsRow.holds Try.pinned (OpenSpec.ofChange relateNeedsWrong)

/-- 'easementlaw07.StackPlays': WHATEVER THE INPUT: true; the input reads as it did. -/
def stackPlaysSpec : ChangeSpec := { name := "stackPlays", fn := fun _ => fun
  | [d] => { results := [.lit (.bool true)], args := [d] }
  | _ => none }
def stackPlaysRow : OpenClaim := { program := "ytnabbhcagonlkaa", sum := "b372d7922be664264370a65af97041b5dec1adc8a1d99c59f9c498e9f59f0c67", func := "easement/easementlaw07.StackPlays", spec := "stackPlays", apart := false }
def StackPlaysSaid : Prop := stackPlaysRow.holds Try.pinned (OpenSpec.ofChange stackPlaysSpec)

/-- ITS FALSE NEIGHBOUR: 'it returns false'. Refute it at one input. -/
def stackPlaysWrong : ChangeSpec := { name := "stackPlays", fn := fun _ => fun
  | [d] => { results := [.lit (.bool false)], args := [d] }
  | _ => none }
def StackPlaysWrongFalsely : Prop := stackPlaysRow.holds Try.pinned (OpenSpec.ofChange stackPlaysWrong)

/-- 'easementlaw07.StackTurns': WHATEVER THE INPUT: true; the input reads as it did. -/
def stackTurnsSpec : ChangeSpec := { name := "stackTurns", fn := fun _ => fun
  | [d] => { results := [.lit (.bool true)], args := [d] }
  | _ => none }
def stackTurnsRow : OpenClaim := { program := "ytnabbhcagonlkaa", sum := "b372d7922be664264370a65af97041b5dec1adc8a1d99c59f9c498e9f59f0c67", func := "easement/easementlaw07.StackTurns", spec := "stackTurns", apart := false }
def StackTurnsSaid : Prop := stackTurnsRow.holds Try.pinned (OpenSpec.ofChange stackTurnsSpec)

/-- ITS FALSE NEIGHBOUR: 'it returns false'. Refute it at one input. -/
def stackTurnsWrong : ChangeSpec := { name := "stackTurns", fn := fun _ => fun
  | [d] => { results := [.lit (.bool false)], args := [d] }
  | _ => none }
def StackTurnsWrongFalsely : Prop := stackTurnsRow.holds Try.pinned (OpenSpec.ofChange stackTurnsWrong)

/- THE SECOND FORM. 'bulk': how many values and letters a reading holds, each counted each time it is reached (what is shared counts as often as it is met; a slice's spare places count too). A statement '..UptoSaid' is the law's where the arguments, and the package variables that the reading takes, are together of bulk at most 1048576: NARROWER than '..Said'. Prove '..Said' where nothing that the law and all that it calls make is longer than what came in: it says more and counts as full. Else prove '..UptoSaid'. A law counts once. -/
mutual
def uptoBulk {H : Type} : DataW H → Nat
  | .lit (.string bytes) => bytes.length + 1
  | .lit _ => 1
  | .nil => 1
  | .ptr d => uptoBulk d + 1
  | .slice elems spare => uptoBulkAll elems + uptoBulkAll spare + 1
  | .agg parts => uptoBulkAll parts + 1
  | .iface _ d => uptoBulk d + 1
  | .map entries => uptoBulkEntries entries + 1
  | .held _ => 1
def uptoBulkAll {H : Type} : List (DataW H) → Nat
  | [] => 0
  | d :: r => uptoBulk d + uptoBulkAll r
def uptoBulkEntries {H : Type} : List (Lit × DataW H) → Nat
  | [] => 0
  | x :: r => uptoBulkEntry x + uptoBulkEntries r
def uptoBulkEntry {H : Type} : Lit × DataW H → Nat
  | (.string bytes, d) => bytes.length + uptoBulk d + 1
  | (_, d) => uptoBulk d + 1
 end
def uptoSmall : (H : Type) → List (DataW H) → Bool := fun _ ds => decide (uptoBulkAll ds ≤ 1048576)
def OpenSpec.upto (s : _root_.Go.ChangeSpec) : _root_.Go.OpenSpec := { _root_.Go.OpenSpec.ofChange s with cond := some uptoSmall }

/-- 'easementlaw16.RelateChains', WHERE WHAT IT READS IS OF BULK AT MOST 1048576: true; the input reads as it did. -/
def relateChainsUptoRow : OpenClaim := { program := "ytnabbhcagonlkaa", sum := "b372d7922be664264370a65af97041b5dec1adc8a1d99c59f9c498e9f59f0c67", func := "easement/easementlaw16.RelateChains", spec := "relateChains", unfollowed := true, recurses := true, apart := false, narrowed := true }
def RelateChainsUptoSaid : Prop := relateChainsUptoRow.holds Try.pinned (OpenSpec.upto relateChainsSpec)

/-- 'easementlaw16.RelateHolds', WHERE WHAT IT READS IS OF BULK AT MOST 1048576: true; the input reads as it did. -/
def relateHoldsUptoRow : OpenClaim := { program := "ytnabbhcagonlkaa", sum := "b372d7922be664264370a65af97041b5dec1adc8a1d99c59f9c498e9f59f0c67", func := "easement/easementlaw16.RelateHolds", spec := "relateHolds", unfollowed := true, recurses := true, apart := false, narrowed := true }
def RelateHoldsUptoSaid : Prop := relateHoldsUptoRow.holds Try.pinned (OpenSpec.upto relateHoldsSpec)

/-- 'easementlaw02.LebTakes', WHERE WHAT IT READS IS OF BULK AT MOST 1048576: true; the input reads as it did. -/
def lebTakesUptoRow : OpenClaim := { program := "ytnabbhcagonlkaa", sum := "b372d7922be664264370a65af97041b5dec1adc8a1d99c59f9c498e9f59f0c67", func := "easement/easementlaw02.LebTakes", spec := "lebTakes", recurses := true, apart := false, narrowed := true }
def LebTakesUptoSaid : Prop := lebTakesUptoRow.holds Try.pinned (OpenSpec.upto lebTakesSpec)

/-- 'easementlaw02.LebBack', WHERE WHAT IT READS IS OF BULK AT MOST 1048576: true; the input reads as it did. -/
def lebBackUptoRow : OpenClaim := { program := "ytnabbhcagonlkaa", sum := "b372d7922be664264370a65af97041b5dec1adc8a1d99c59f9c498e9f59f0c67", func := "easement/easementlaw02.LebBack", spec := "lebBack", apart := false, narrowed := true }
def LebBackUptoSaid : Prop := lebBackUptoRow.holds Try.pinned (OpenSpec.upto lebBackSpec)

/-- 'easementlaw09.TickBounds', WHERE WHAT IT READS IS OF BULK AT MOST 1048576: true; the input reads as it did. -/
def tickBoundsUptoRow : OpenClaim := { program := "ytnabbhcagonlkaa", sum := "b372d7922be664264370a65af97041b5dec1adc8a1d99c59f9c498e9f59f0c67", func := "easement/easementlaw09.TickBounds", spec := "tickBounds", apart := false, narrowed := true }
def TickBoundsUptoSaid : Prop := tickBoundsUptoRow.holds Try.pinned (OpenSpec.upto tickBoundsSpec)

/-- 'easementlaw02.LebPuts', WHERE WHAT IT READS IS OF BULK AT MOST 1048576: true; the input reads as it did. -/
def lebPutsUptoRow : OpenClaim := { program := "ytnabbhcagonlkaa", sum := "b372d7922be664264370a65af97041b5dec1adc8a1d99c59f9c498e9f59f0c67", func := "easement/easementlaw02.LebPuts", spec := "lebPuts", recurses := true, apart := false, narrowed := true }
def LebPutsUptoSaid : Prop := lebPutsUptoRow.holds Try.pinned (OpenSpec.upto lebPutsSpec)

/-- 'easementlaw07.StackQueues', WHERE WHAT IT READS IS OF BULK AT MOST 1048576: true; the input reads as it did. -/
def stackQueuesUptoRow : OpenClaim := { program := "ytnabbhcagonlkaa", sum := "b372d7922be664264370a65af97041b5dec1adc8a1d99c59f9c498e9f59f0c67", func := "easement/easementlaw07.StackQueues", spec := "stackQueues", apart := false, narrowed := true }
def StackQueuesUptoSaid : Prop := stackQueuesUptoRow.holds Try.pinned (OpenSpec.upto stackQueuesSpec)

/-- 'easementlaw09.TickCounts', WHERE WHAT IT READS IS OF BULK AT MOST 1048576: true; the input reads as it did. -/
def tickCountsUptoRow : OpenClaim := { program := "ytnabbhcagonlkaa", sum := "b372d7922be664264370a65af97041b5dec1adc8a1d99c59f9c498e9f59f0c67", func := "easement/easementlaw09.TickCounts", spec := "tickCounts", apart := false, narrowed := true }
def TickCountsUptoSaid : Prop := tickCountsUptoRow.holds Try.pinned (OpenSpec.upto tickCountsSpec)

/-- 'easementlaw16.RelateNeeds', WHERE WHAT IT READS IS OF BULK AT MOST 1048576: true; the input reads as it did. -/
def relateNeedsUptoRow : OpenClaim := { program := "ytnabbhcagonlkaa", sum := "b372d7922be664264370a65af97041b5dec1adc8a1d99c59f9c498e9f59f0c67", func := "easement/easementlaw16.RelateNeeds", spec := "relateNeeds", unfollowed := true, recurses := true, apart := false, narrowed := true }
def RelateNeedsUptoSaid : Prop := relateNeedsUptoRow.holds Try.pinned (OpenSpec.upto relateNeedsSpec)

/-- 'easementlaw07.StackPlays', WHERE WHAT IT READS IS OF BULK AT MOST 1048576: true; the input reads as it did. -/
def stackPlaysUptoRow : OpenClaim := { program := "ytnabbhcagonlkaa", sum := "b372d7922be664264370a65af97041b5dec1adc8a1d99c59f9c498e9f59f0c67", func := "easement/easementlaw07.StackPlays", spec := "stackPlays", apart := false, narrowed := true }
def StackPlaysUptoSaid : Prop := stackPlaysUptoRow.holds Try.pinned (OpenSpec.upto stackPlaysSpec)

/-- 'easementlaw07.StackTurns', WHERE WHAT IT READS IS OF BULK AT MOST 1048576: true; the input reads as it did. -/
def stackTurnsUptoRow : OpenClaim := { program := "ytnabbhcagonlkaa", sum := "b372d7922be664264370a65af97041b5dec1adc8a1d99c59f9c498e9f59f0c67", func := "easement/easementlaw07.StackTurns", spec := "stackTurns", apart := false, narrowed := true }
def StackTurnsUptoSaid : Prop := stackTurnsUptoRow.holds Try.pinned (OpenSpec.upto stackTurnsSpec)

end Rows
end Go.Proofs.Ytnabbhcagonlkaa
