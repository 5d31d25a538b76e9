/-
  No cell of these rows narrows 'for every input' (looked for: loops, veiled, ifaces, maps, wideKeys, modest, calm, conditions, laid).
  DERIVED. THE GIVEN ROWS OF THIS SEAT. 9 by the template 'for every input the law returns true; each argument reads behind the call as it read before'; 0 by the template 'total and deterministic' (their statements: YthfpdpjccnnlhaaTotals.lean).
  GIVEN WITH THE SEED: the statements are not yours to turn. If you find one false, say at which input.
  Laid BY PROGRAM, IN A SANDBOX (cutbox-rows.mjs): the forced cells as the released guide's own fill.sh prints them over the translation 53b473cfbd9f7178… (all of the seat's roots in one cut). By AI agents, Wed Nov 11 2026. No macro, syntax, notation, axiom, sorry.
-/
import Derived.Test.YthfpdpjccnnlhaaChecked
import GoSem.Claim
import GoSem.ClaimJoined
import GoSem.ClaimMapViews
import Derived.JoinedTies
import Derived.KernelRfl
namespace Go.Proofs.Ythfpdpjccnnlhaa
/- THE CELL 'sum', in the pinned program and in every row, IS THE sha256 OF THE DUMP (.gsa) THAT YthfpdpjccnnlhaaProg.lean LOADS. Nothing in Lean hashes anything: it is a label: what it is worth is what the hold of that sum in a sandbox is worth. -/
noncomputable def Try.pinned : Pinned := { name := "ythfpdpjccnnlhaa", sum := "53b473cfbd9f7178c86475370b3f926dea4495c2df0cc8fb44677640415a8522", checked := Try.checked }
namespace Rows
def none {H : Type} : Left H := { results := [], args := [] }

/-- 'easementlaw10.GraphReaches': WHATEVER THE INPUT: true; the input reads as it did. -/
def graphReachesSpec : ChangeSpec := { name := "graphReaches", fn := fun _ => fun
  | [d1, d2, d3] => { results := [.lit (.bool true)], args := [d1, d2, d3] }
  | _ => none }
def graphReachesRow : OpenClaim := { program := "ythfpdpjccnnlhaa", sum := "53b473cfbd9f7178c86475370b3f926dea4495c2df0cc8fb44677640415a8522", func := "easement/easementlaw10.GraphReaches", spec := "graphReaches", unfollowed := true, recurses := true, apart := false }
def GraphReachesSaid : Prop := graphReachesRow.holds Try.pinned (OpenSpec.ofChange graphReachesSpec)

/-- ITS FALSE NEIGHBOUR: 'it returns false'. Refute it at one input. -/
def graphReachesWrong : ChangeSpec := { name := "graphReaches", fn := fun _ => fun
  | [d1, d2, d3] => { results := [.lit (.bool false)], args := [d1, d2, d3] }
  | _ => none }
def GraphReachesWrongFalsely : Prop := graphReachesRow.holds Try.pinned (OpenSpec.ofChange graphReachesWrong)

/-- 'easementlaw10.GraphTells': WHATEVER THE INPUT: true; the input reads as it did. -/
def graphTellsSpec : ChangeSpec := { name := "graphTells", fn := fun _ => fun
  | [d1, d2, d3, d4] => { results := [.lit (.bool true)], args := [d1, d2, d3, d4] }
  | _ => none }
def graphTellsRow : OpenClaim := { program := "ythfpdpjccnnlhaa", sum := "53b473cfbd9f7178c86475370b3f926dea4495c2df0cc8fb44677640415a8522", func := "easement/easementlaw10.GraphTells", spec := "graphTells", unfollowed := true, recurses := true, apart := false }
def GraphTellsSaid : Prop := graphTellsRow.holds Try.pinned (OpenSpec.ofChange graphTellsSpec)

/-- ITS FALSE NEIGHBOUR: 'it returns false'. Refute it at one input. -/
def graphTellsWrong : ChangeSpec := { name := "graphTells", fn := fun _ => fun
  | [d1, d2, d3, d4] => { results := [.lit (.bool false)], args := [d1, d2, d3, d4] }
  | _ => none }
def GraphTellsWrongFalsely : Prop := graphTellsRow.holds Try.pinned (OpenSpec.ofChange graphTellsWrong)

/-- 'easementlaw10.GraphTurns': WHATEVER THE INPUT: true; the input reads as it did. -/
def graphTurnsSpec : ChangeSpec := { name := "graphTurns", fn := fun _ => fun
  | [d1, d2, d3] => { results := [.lit (.bool true)], args := [d1, d2, d3] }
  | _ => none }
def graphTurnsRow : OpenClaim := { program := "ythfpdpjccnnlhaa", sum := "53b473cfbd9f7178c86475370b3f926dea4495c2df0cc8fb44677640415a8522", func := "easement/easementlaw10.GraphTurns", spec := "graphTurns", unfollowed := true, recurses := true, apart := false }
def GraphTurnsSaid : Prop := graphTurnsRow.holds Try.pinned (OpenSpec.ofChange graphTurnsSpec)

/-- ITS FALSE NEIGHBOUR: 'it returns false'. Refute it at one input. -/
def graphTurnsWrong : ChangeSpec := { name := "graphTurns", fn := fun _ => fun
  | [d1, d2, d3] => { results := [.lit (.bool false)], args := [d1, d2, d3] }
  | _ => none }
def GraphTurnsWrongFalsely : Prop := graphTurnsRow.holds Try.pinned (OpenSpec.ofChange graphTurnsWrong)

/-- 'easementlaw13.BfsMiddle': WHATEVER THE INPUT: true; the input reads as it did. -/
def bfsMiddleSpec : ChangeSpec := { name := "bfsMiddle", fn := fun _ => fun
  | [d1, d2, d3, d4, d5] => { results := [.lit (.bool true)], args := [d1, d2, d3, d4, d5] }
  | _ => none }
def bfsMiddleRow : OpenClaim := { program := "ythfpdpjccnnlhaa", sum := "53b473cfbd9f7178c86475370b3f926dea4495c2df0cc8fb44677640415a8522", func := "easement/easementlaw13.BfsMiddle", spec := "bfsMiddle", unfollowed := true, recurses := true, apart := false }
def BfsMiddleSaid : Prop := bfsMiddleRow.holds Try.pinned (OpenSpec.ofChange bfsMiddleSpec)

/-- ITS FALSE NEIGHBOUR: 'it returns false'. Refute it at one input. -/
def bfsMiddleWrong : ChangeSpec := { name := "bfsMiddle", fn := fun _ => fun
  | [d1, d2, d3, d4, d5] => { results := [.lit (.bool false)], args := [d1, d2, d3, d4, d5] }
  | _ => none }
def BfsMiddleWrongFalsely : Prop := bfsMiddleRow.holds Try.pinned (OpenSpec.ofChange bfsMiddleWrong)

/-- 'easementlaw13.BfsTells': WHATEVER THE INPUT: true; the input reads as it did. -/
def bfsTellsSpec : ChangeSpec := { name := "bfsTells", fn := fun _ => fun
  | [d1, d2, d3, d4, d5] => { results := [.lit (.bool true)], args := [d1, d2, d3, d4, d5] }
  | _ => none }
def bfsTellsRow : OpenClaim := { program := "ythfpdpjccnnlhaa", sum := "53b473cfbd9f7178c86475370b3f926dea4495c2df0cc8fb44677640415a8522", func := "easement/easementlaw13.BfsTells", spec := "bfsTells", unfollowed := true, recurses := true, apart := false }
def BfsTellsSaid : Prop := bfsTellsRow.holds Try.pinned (OpenSpec.ofChange bfsTellsSpec)

/-- ITS FALSE NEIGHBOUR: 'it returns false'. Refute it at one input. -/
def bfsTellsWrong : ChangeSpec := { name := "bfsTells", fn := fun _ => fun
  | [d1, d2, d3, d4, d5] => { results := [.lit (.bool false)], args := [d1, d2, d3, d4, d5] }
  | _ => none }
def BfsTellsWrongFalsely : Prop := bfsTellsRow.holds Try.pinned (OpenSpec.ofChange bfsTellsWrong)

/-- 'easementlaw13.BfsLayers': WHATEVER THE INPUT: true; the input reads as it did. -/
def bfsLayersSpec : ChangeSpec := { name := "bfsLayers", fn := fun _ => fun
  | [d1, d2, d3] => { results := [.lit (.bool true)], args := [d1, d2, d3] }
  | _ => none }
def bfsLayersRow : OpenClaim := { program := "ythfpdpjccnnlhaa", sum := "53b473cfbd9f7178c86475370b3f926dea4495c2df0cc8fb44677640415a8522", func := "easement/easementlaw13.BfsLayers", spec := "bfsLayers", unfollowed := true, recurses := true, apart := false }
def BfsLayersSaid : Prop := bfsLayersRow.holds Try.pinned (OpenSpec.ofChange bfsLayersSpec)

/-- ITS FALSE NEIGHBOUR: 'it returns false'. Refute it at one input. -/
def bfsLayersWrong : ChangeSpec := { name := "bfsLayers", fn := fun _ => fun
  | [d1, d2, d3] => { results := [.lit (.bool false)], args := [d1, d2, d3] }
  | _ => none }
def BfsLayersWrongFalsely : Prop := bfsLayersRow.holds Try.pinned (OpenSpec.ofChange bfsLayersWrong)

/-- 'easementlaw14.PathShort': WHATEVER THE INPUT: true; the input reads as it did. -/
def pathShortSpec : ChangeSpec := { name := "pathShort", fn := fun _ => fun
  | [d1, d2, d3, d4] => { results := [.lit (.bool true)], args := [d1, d2, d3, d4] }
  | _ => none }
def pathShortRow : OpenClaim := { program := "ythfpdpjccnnlhaa", sum := "53b473cfbd9f7178c86475370b3f926dea4495c2df0cc8fb44677640415a8522", func := "easement/easementlaw14.PathShort", spec := "pathShort", unfollowed := true, recurses := true, apart := false }
def PathShortSaid : Prop := pathShortRow.holds Try.pinned (OpenSpec.ofChange pathShortSpec)

/-- ITS FALSE NEIGHBOUR: 'it returns false'. Refute it at one input. -/
def pathShortWrong : ChangeSpec := { name := "pathShort", fn := fun _ => fun
  | [d1, d2, d3, d4] => { results := [.lit (.bool false)], args := [d1, d2, d3, d4] }
  | _ => none }
def PathShortWrongFalsely : Prop := pathShortRow.holds Try.pinned (OpenSpec.ofChange pathShortWrong)

/-- 'easementlaw14.PathWalks': WHATEVER THE INPUT: true; the input reads as it did. -/
def pathWalksSpec : ChangeSpec := { name := "pathWalks", fn := fun _ => fun
  | [d1, d2, d3, d4, d5] => { results := [.lit (.bool true)], args := [d1, d2, d3, d4, d5] }
  | _ => none }
def pathWalksRow : OpenClaim := { program := "ythfpdpjccnnlhaa", sum := "53b473cfbd9f7178c86475370b3f926dea4495c2df0cc8fb44677640415a8522", func := "easement/easementlaw14.PathWalks", spec := "pathWalks", unfollowed := true, recurses := true, apart := false }
def PathWalksSaid : Prop := pathWalksRow.holds Try.pinned (OpenSpec.ofChange pathWalksSpec)

/-- ITS FALSE NEIGHBOUR: 'it returns false'. Refute it at one input. -/
def pathWalksWrong : ChangeSpec := { name := "pathWalks", fn := fun _ => fun
  | [d1, d2, d3, d4, d5] => { results := [.lit (.bool false)], args := [d1, d2, d3, d4, d5] }
  | _ => none }
def PathWalksWrongFalsely : Prop := pathWalksRow.holds Try.pinned (OpenSpec.ofChange pathWalksWrong)

/-- 'easementlaw14.PathEnds': WHATEVER THE INPUT: true; the input reads as it did. -/
def pathEndsSpec : ChangeSpec := { name := "pathEnds", fn := fun _ => fun
  | [d1, d2, d3, d4] => { results := [.lit (.bool true)], args := [d1, d2, d3, d4] }
  | _ => none }
def pathEndsRow : OpenClaim := { program := "ythfpdpjccnnlhaa", sum := "53b473cfbd9f7178c86475370b3f926dea4495c2df0cc8fb44677640415a8522", func := "easement/easementlaw14.PathEnds", spec := "pathEnds", unfollowed := true, recurses := true, apart := false }
def PathEndsSaid : Prop := pathEndsRow.holds Try.pinned (OpenSpec.ofChange pathEndsSpec)

/-- ITS FALSE NEIGHBOUR: 'it returns false'. Refute it at one input. -/
def pathEndsWrong : ChangeSpec := { name := "pathEnds", fn := fun _ => fun
  | [d1, d2, d3, d4] => { results := [.lit (.bool false)], args := [d1, d2, d3, d4] }
  | _ => none }
def PathEndsWrongFalsely : Prop := pathEndsRow.holds Try.pinned (OpenSpec.ofChange pathEndsWrong)

/- THE SECOND FORM. 'bulk': how many values and letters a reading holds, each counted each time it is reached (what is shared counts as often as it is met; a slice's spare places count too). A statement '..UptoSaid' is the law's where the arguments, and the package variables that the reading takes, are together of bulk at most 1048576: NARROWER than '..Said'. Prove '..Said' where nothing that the law and all that it calls make is longer than what came in: it says more and counts as full. Else prove '..UptoSaid'. A law counts once. -/
mutual
def uptoBulk {H : Type} : DataW H → Nat
  | .lit (.string bytes) => bytes.length + 1
  | .lit _ => 1
  | .nil => 1
  | .ptr d => uptoBulk d + 1
  | .slice elems spare => uptoBulkAll elems + uptoBulkAll spare + 1
  | .agg parts => uptoBulkAll parts + 1
  | .iface _ d => uptoBulk d + 1
  | .map entries => uptoBulkEntries entries + 1
  | .held _ => 1
def uptoBulkAll {H : Type} : List (DataW H) → Nat
  | [] => 0
  | d :: r => uptoBulk d + uptoBulkAll r
def uptoBulkEntries {H : Type} : List (Lit × DataW H) → Nat
  | [] => 0
  | x :: r => uptoBulkEntry x + uptoBulkEntries r
def uptoBulkEntry {H : Type} : Lit × DataW H → Nat
  | (.string bytes, d) => bytes.length + uptoBulk d + 1
  | (_, d) => uptoBulk d + 1
 end
def uptoSmall : (H : Type) → List (DataW H) → Bool := fun _ ds => decide (uptoBulkAll ds ≤ 1048576)
def OpenSpec.upto (s : _root_.Go.ChangeSpec) : _root_.Go.OpenSpec := { _root_.Go.OpenSpec.ofChange s with cond := some uptoSmall }

/-- 'easementlaw10.GraphReaches', WHERE WHAT IT READS IS OF BULK AT MOST 1048576: true; the input reads as it did. -/
def graphReachesUptoRow : OpenClaim := { program := "ythfpdpjccnnlhaa", sum := "53b473cfbd9f7178c86475370b3f926dea4495c2df0cc8fb44677640415a8522", func := "easement/easementlaw10.GraphReaches", spec := "graphReaches", unfollowed := true, recurses := true, apart := false, narrowed := true }
def GraphReachesUptoSaid : Prop := graphReachesUptoRow.holds Try.pinned (OpenSpec.upto graphReachesSpec)

/-- 'easementlaw10.GraphTells', WHERE WHAT IT READS IS OF BULK AT MOST 1048576: true; the input reads as it did. -/
def graphTellsUptoRow : OpenClaim := { program := "ythfpdpjccnnlhaa", sum := "53b473cfbd9f7178c86475370b3f926dea4495c2df0cc8fb44677640415a8522", func := "easement/easementlaw10.GraphTells", spec := "graphTells", unfollowed := true, recurses := true, apart := false, narrowed := true }
def GraphTellsUptoSaid : Prop := graphTellsUptoRow.holds Try.pinned (OpenSpec.upto graphTellsSpec)

/-- 'easementlaw10.GraphTurns', WHERE WHAT IT READS IS OF BULK AT MOST 1048576: true; the input reads as it did. -/
def graphTurnsUptoRow : OpenClaim := { program := "ythfpdpjccnnlhaa", sum := "53b473cfbd9f7178c86475370b3f926dea4495c2df0cc8fb44677640415a8522", func := "easement/easementlaw10.GraphTurns", spec := "graphTurns", unfollowed := true, recurses := true, apart := false, narrowed := true }
def GraphTurnsUptoSaid : Prop := graphTurnsUptoRow.holds Try.pinned (OpenSpec.upto graphTurnsSpec)

/-- 'easementlaw13.BfsMiddle', WHERE WHAT IT READS IS OF BULK AT MOST 1048576: true; the input reads as it did. -/
def bfsMiddleUptoRow : OpenClaim := { program := "ythfpdpjccnnlhaa", sum := "53b473cfbd9f7178c86475370b3f926dea4495c2df0cc8fb44677640415a8522", func := "easement/easementlaw13.BfsMiddle", spec := "bfsMiddle", unfollowed := true, recurses := true, apart := false, narrowed := true }
def BfsMiddleUptoSaid : Prop := bfsMiddleUptoRow.holds Try.pinned (OpenSpec.upto bfsMiddleSpec)

/-- 'easementlaw13.BfsTells', WHERE WHAT IT READS IS OF BULK AT MOST 1048576: true; the input reads as it did. -/
def bfsTellsUptoRow : OpenClaim := { program := "ythfpdpjccnnlhaa", sum := "53b473cfbd9f7178c86475370b3f926dea4495c2df0cc8fb44677640415a8522", func := "easement/easementlaw13.BfsTells", spec := "bfsTells", unfollowed := true, recurses := true, apart := false, narrowed := true }
def BfsTellsUptoSaid : Prop := bfsTellsUptoRow.holds Try.pinned (OpenSpec.upto bfsTellsSpec)

/-- 'easementlaw13.BfsLayers', WHERE WHAT IT READS IS OF BULK AT MOST 1048576: true; the input reads as it did. -/
def bfsLayersUptoRow : OpenClaim := { program := "ythfpdpjccnnlhaa", sum := "53b473cfbd9f7178c86475370b3f926dea4495c2df0cc8fb44677640415a8522", func := "easement/easementlaw13.BfsLayers", spec := "bfsLayers", unfollowed := true, recurses := true, apart := false, narrowed := true }
def BfsLayersUptoSaid : Prop := bfsLayersUptoRow.holds Try.pinned (OpenSpec.upto bfsLayersSpec)

/-- 'easementlaw14.PathShort', WHERE WHAT IT READS IS OF BULK AT MOST 1048576: true; the input reads as it did. -/
def pathShortUptoRow : OpenClaim := { program := "ythfpdpjccnnlhaa", sum := "53b473cfbd9f7178c86475370b3f926dea4495c2df0cc8fb44677640415a8522", func := "easement/easementlaw14.PathShort", spec := "pathShort", unfollowed := true, recurses := true, apart := false, narrowed := true }
def PathShortUptoSaid : Prop := pathShortUptoRow.holds Try.pinned (OpenSpec.upto pathShortSpec)

/-- 'easementlaw14.PathWalks', WHERE WHAT IT READS IS OF BULK AT MOST 1048576: true; the input reads as it did. -/
def pathWalksUptoRow : OpenClaim := { program := "ythfpdpjccnnlhaa", sum := "53b473cfbd9f7178c86475370b3f926dea4495c2df0cc8fb44677640415a8522", func := "easement/easementlaw14.PathWalks", spec := "pathWalks", unfollowed := true, recurses := true, apart := false, narrowed := true }
def PathWalksUptoSaid : Prop := pathWalksUptoRow.holds Try.pinned (OpenSpec.upto pathWalksSpec)

/-- 'easementlaw14.PathEnds', WHERE WHAT IT READS IS OF BULK AT MOST 1048576: true; the input reads as it did. -/
def pathEndsUptoRow : OpenClaim := { program := "ythfpdpjccnnlhaa", sum := "53b473cfbd9f7178c86475370b3f926dea4495c2df0cc8fb44677640415a8522", func := "easement/easementlaw14.PathEnds", spec := "pathEnds", unfollowed := true, recurses := true, apart := false, narrowed := true }
def PathEndsUptoSaid : Prop := pathEndsUptoRow.holds Try.pinned (OpenSpec.upto pathEndsSpec)

end Rows
end Go.Proofs.Ythfpdpjccnnlhaa
