/-
  No cell of these rows narrows 'for every input' (looked for: loops, veiled, ifaces, maps, wideKeys, modest, calm, conditions, laid).
  DERIVED. THE GIVEN ROWS OF THIS SEAT. 9 by the template 'for every input the law returns true; each argument reads behind the call as it read before'; 0 by the template 'total and deterministic' (their statements: YthhebinonpoddaaTotals.lean).
  GIVEN WITH THE SEED: the statements are not yours to turn. If you find one false, say at which input.
  Laid BY PROGRAM, IN A SANDBOX (cutbox-rows.mjs): the forced cells as the released guide's own fill.sh prints them over the translation 6455b37acabd0037… (all of the seat's roots in one cut). By AI agents, Wed Nov 11 2026. No macro, syntax, notation, axiom, sorry.
-/
import Derived.Test.YthhebinonpoddaaChecked
import GoSem.Claim
import GoSem.ClaimJoined
import GoSem.ClaimMapViews
import Derived.JoinedTies
import Derived.KernelRfl
namespace Go.Proofs.Ythhebinonpoddaa
/- THE CELL 'sum', in the pinned program and in every row, IS THE sha256 OF THE DUMP (.gsa) THAT YthhebinonpoddaaProg.lean LOADS. Nothing in Lean hashes anything: it is a label: what it is worth is what the hold of that sum in a sandbox is worth. -/
noncomputable def Try.pinned : Pinned := { name := "ythhebinonpoddaa", sum := "6455b37acabd0037107f9380de6228106ae1d36badf62b07a897971781d9bea2", checked := Try.checked }
namespace Rows
def none {H : Type} : Left H := { results := [], args := [] }

/-- 'easementlaw18.StmtTakes': WHATEVER THE INPUT: true; the input reads as it did. -/
def stmtTakesSpec : ChangeSpec := { name := "stmtTakes", fn := fun _ => fun
  | [d1, d2] => { results := [.lit (.bool true)], args := [d1, d2] }
  | _ => none }
def stmtTakesRow : OpenClaim := { program := "ythhebinonpoddaa", sum := "6455b37acabd0037107f9380de6228106ae1d36badf62b07a897971781d9bea2", func := "easement/easementlaw18.StmtTakes", spec := "stmtTakes", recurses := true, apart := false }
def StmtTakesSaid : Prop := stmtTakesRow.holds Try.pinned (OpenSpec.ofChange stmtTakesSpec)

/-- ITS FALSE NEIGHBOUR: 'it returns false'. Refute it at one input. -/
def stmtTakesWrong : ChangeSpec := { name := "stmtTakes", fn := fun _ => fun
  | [d1, d2] => { results := [.lit (.bool false)], args := [d1, d2] }
  | _ => none }
def StmtTakesWrongFalsely : Prop := stmtTakesRow.holds Try.pinned (OpenSpec.ofChange stmtTakesWrong)

/-- 'easementlaw18.StmtBack': WHATEVER THE INPUT: true; the input reads as it did. -/
def stmtBackSpec : ChangeSpec := { name := "stmtBack", fn := fun _ => fun
  | [d1, d2] => { results := [.lit (.bool true)], args := [d1, d2] }
  | _ => none }
def stmtBackRow : OpenClaim := { program := "ythhebinonpoddaa", sum := "6455b37acabd0037107f9380de6228106ae1d36badf62b07a897971781d9bea2", func := "easement/easementlaw18.StmtBack", spec := "stmtBack", apart := false }
def StmtBackSaid : Prop := stmtBackRow.holds Try.pinned (OpenSpec.ofChange stmtBackSpec)

/-- ITS FALSE NEIGHBOUR: 'it returns false'. Refute it at one input. -/
def stmtBackWrong : ChangeSpec := { name := "stmtBack", fn := fun _ => fun
  | [d1, d2] => { results := [.lit (.bool false)], args := [d1, d2] }
  | _ => none }
def StmtBackWrongFalsely : Prop := stmtBackRow.holds Try.pinned (OpenSpec.ofChange stmtBackWrong)

/-- 'easementlaw19.TermBack': WHATEVER THE INPUT: true; the input reads as it did. -/
def termBackSpec : ChangeSpec := { name := "termBack", fn := fun _ => fun
  | [d1, d2] => { results := [.lit (.bool true)], args := [d1, d2] }
  | _ => none }
def termBackRow : OpenClaim := { program := "ythhebinonpoddaa", sum := "6455b37acabd0037107f9380de6228106ae1d36badf62b07a897971781d9bea2", func := "easement/easementlaw19.TermBack", spec := "termBack", apart := false }
def TermBackSaid : Prop := termBackRow.holds Try.pinned (OpenSpec.ofChange termBackSpec)

/-- ITS FALSE NEIGHBOUR: 'it returns false'. Refute it at one input. -/
def termBackWrong : ChangeSpec := { name := "termBack", fn := fun _ => fun
  | [d1, d2] => { results := [.lit (.bool false)], args := [d1, d2] }
  | _ => none }
def TermBackWrongFalsely : Prop := termBackRow.holds Try.pinned (OpenSpec.ofChange termBackWrong)

/-- 'easementlaw19.TermTakes': WHATEVER THE INPUT: true; the input reads as it did. -/
def termTakesSpec : ChangeSpec := { name := "termTakes", fn := fun _ => fun
  | [d1, d2] => { results := [.lit (.bool true)], args := [d1, d2] }
  | _ => none }
def termTakesRow : OpenClaim := { program := "ythhebinonpoddaa", sum := "6455b37acabd0037107f9380de6228106ae1d36badf62b07a897971781d9bea2", func := "easement/easementlaw19.TermTakes", spec := "termTakes", recurses := true, apart := false }
def TermTakesSaid : Prop := termTakesRow.holds Try.pinned (OpenSpec.ofChange termTakesSpec)

/-- ITS FALSE NEIGHBOUR: 'it returns false'. Refute it at one input. -/
def termTakesWrong : ChangeSpec := { name := "termTakes", fn := fun _ => fun
  | [d1, d2] => { results := [.lit (.bool false)], args := [d1, d2] }
  | _ => none }
def TermTakesWrongFalsely : Prop := termTakesRow.holds Try.pinned (OpenSpec.ofChange termTakesWrong)

/-- 'easementlaw17.SigTakes': WHATEVER THE INPUT: true; the input reads as it did. -/
def sigTakesSpec : ChangeSpec := { name := "sigTakes", fn := fun _ => fun
  | [d1, d2] => { results := [.lit (.bool true)], args := [d1, d2] }
  | _ => none }
def sigTakesRow : OpenClaim := { program := "ythhebinonpoddaa", sum := "6455b37acabd0037107f9380de6228106ae1d36badf62b07a897971781d9bea2", func := "easement/easementlaw17.SigTakes", spec := "sigTakes", unfollowed := true, recurses := true, apart := false }
def SigTakesSaid : Prop := sigTakesRow.holds Try.pinned (OpenSpec.ofChange sigTakesSpec)

/-- ITS FALSE NEIGHBOUR: 'it returns false'. Refute it at one input. -/
def sigTakesWrong : ChangeSpec := { name := "sigTakes", fn := fun _ => fun
  | [d1, d2] => { results := [.lit (.bool false)], args := [d1, d2] }
  | _ => none }
def SigTakesWrongFalsely : Prop := sigTakesRow.holds Try.pinned (OpenSpec.ofChange sigTakesWrong)

/-- 'easementlaw18.StmtNeeds': WHATEVER THE INPUT: true; the input reads as it did. -/
def stmtNeedsSpec : ChangeSpec := { name := "stmtNeeds", fn := fun _ => fun
  | [d1, d2, d3] => { results := [.lit (.bool true)], args := [d1, d2, d3] }
  | _ => none }
def stmtNeedsRow : OpenClaim := { program := "ythhebinonpoddaa", sum := "6455b37acabd0037107f9380de6228106ae1d36badf62b07a897971781d9bea2", func := "easement/easementlaw18.StmtNeeds", spec := "stmtNeeds", unfollowed := true, recurses := true, apart := false }
def StmtNeedsSaid : Prop := stmtNeedsRow.holds Try.pinned (OpenSpec.ofChange stmtNeedsSpec)

/-- ITS FALSE NEIGHBOUR: 'it returns false'. Refute it at one input. -/
def stmtNeedsWrong : ChangeSpec := { name := "stmtNeeds", fn := fun _ => fun
  | [d1, d2, d3] => { results := [.lit (.bool false)], args := [d1, d2, d3] }
  | _ => none }
def StmtNeedsWrongFalsely : Prop := stmtNeedsRow.holds Try.pinned (OpenSpec.ofChange stmtNeedsWrong)

/-- 'easementlaw17.SigCalls': WHATEVER THE INPUT: true; the input reads as it did. -/
def sigCallsSpec : ChangeSpec := { name := "sigCalls", fn := fun _ => fun
  | [d1, d2, d3, d4] => { results := [.lit (.bool true)], args := [d1, d2, d3, d4] }
  | _ => none }
def sigCallsRow : OpenClaim := { program := "ythhebinonpoddaa", sum := "6455b37acabd0037107f9380de6228106ae1d36badf62b07a897971781d9bea2", func := "easement/easementlaw17.SigCalls", spec := "sigCalls", unfollowed := true, recurses := true, apart := false }
def SigCallsSaid : Prop := sigCallsRow.holds Try.pinned (OpenSpec.ofChange sigCallsSpec)

/-- ITS FALSE NEIGHBOUR: 'it returns false'. Refute it at one input. -/
def sigCallsWrong : ChangeSpec := { name := "sigCalls", fn := fun _ => fun
  | [d1, d2, d3, d4] => { results := [.lit (.bool false)], args := [d1, d2, d3, d4] }
  | _ => none }
def SigCallsWrongFalsely : Prop := sigCallsRow.holds Try.pinned (OpenSpec.ofChange sigCallsWrong)

/-- 'easementlaw17.SigBack': WHATEVER THE INPUT: true; the input reads as it did. -/
def sigBackSpec : ChangeSpec := { name := "sigBack", fn := fun _ => fun
  | [d1, d2] => { results := [.lit (.bool true)], args := [d1, d2] }
  | _ => none }
def sigBackRow : OpenClaim := { program := "ythhebinonpoddaa", sum := "6455b37acabd0037107f9380de6228106ae1d36badf62b07a897971781d9bea2", func := "easement/easementlaw17.SigBack", spec := "sigBack", unfollowed := true, recurses := true, apart := false }
def SigBackSaid : Prop := sigBackRow.holds Try.pinned (OpenSpec.ofChange sigBackSpec)

/-- ITS FALSE NEIGHBOUR: 'it returns false'. Refute it at one input. -/
def sigBackWrong : ChangeSpec := { name := "sigBack", fn := fun _ => fun
  | [d1, d2] => { results := [.lit (.bool false)], args := [d1, d2] }
  | _ => none }
def SigBackWrongFalsely : Prop := sigBackRow.holds Try.pinned (OpenSpec.ofChange sigBackWrong)

/-- 'easementlaw19.TermNeeds': WHATEVER THE INPUT: true; the input reads as it did. -/
def termNeedsSpec : ChangeSpec := { name := "termNeeds", fn := fun _ => fun
  | [d1, d2] => { results := [.lit (.bool true)], args := [d1, d2] }
  | _ => none }
def termNeedsRow : OpenClaim := { program := "ythhebinonpoddaa", sum := "6455b37acabd0037107f9380de6228106ae1d36badf62b07a897971781d9bea2", func := "easement/easementlaw19.TermNeeds", spec := "termNeeds", unfollowed := true, recurses := true, apart := false }
def TermNeedsSaid : Prop := termNeedsRow.holds Try.pinned (OpenSpec.ofChange termNeedsSpec)

/-- ITS FALSE NEIGHBOUR: 'it returns false'. Refute it at one input. -/
def termNeedsWrong : ChangeSpec := { name := "termNeeds", fn := fun _ => fun
  | [d1, d2] => { results := [.lit (.bool false)], args := [d1, d2] }
  | _ => none }
def TermNeedsWrongFalsely : Prop := termNeedsRow.holds Try.pinned (OpenSpec.ofChange termNeedsWrong)

/- THE SECOND FORM. 'bulk': how many values and letters a reading holds, each counted each time it is reached (what is shared counts as often as it is met; a slice's spare places count too). A statement '..UptoSaid' is the law's where the arguments, and the package variables that the reading takes, are together of bulk at most 1048576: NARROWER than '..Said'. Prove '..Said' where nothing that the law and all that it calls make is longer than what came in: it says more and counts as full. Else prove '..UptoSaid'. A law counts once. -/
mutual
def uptoBulk {H : Type} : DataW H → Nat
  | .lit (.string bytes) => bytes.length + 1
  | .lit _ => 1
  | .nil => 1
  | .ptr d => uptoBulk d + 1
  | .slice elems spare => uptoBulkAll elems + uptoBulkAll spare + 1
  | .agg parts => uptoBulkAll parts + 1
  | .iface _ d => uptoBulk d + 1
  | .map entries => uptoBulkEntries entries + 1
  | .held _ => 1
def uptoBulkAll {H : Type} : List (DataW H) → Nat
  | [] => 0
  | d :: r => uptoBulk d + uptoBulkAll r
def uptoBulkEntries {H : Type} : List (Lit × DataW H) → Nat
  | [] => 0
  | x :: r => uptoBulkEntry x + uptoBulkEntries r
def uptoBulkEntry {H : Type} : Lit × DataW H → Nat
  | (.string bytes, d) => bytes.length + uptoBulk d + 1
  | (_, d) => uptoBulk d + 1
 end
def uptoSmall : (H : Type) → List (DataW H) → Bool := fun _ ds => decide (uptoBulkAll ds ≤ 1048576)
def OpenSpec.upto (s : _root_.Go.ChangeSpec) : _root_.Go.OpenSpec := { _root_.Go.OpenSpec.ofChange s with cond := some uptoSmall }

/-- 'easementlaw18.StmtTakes', WHERE WHAT IT READS IS OF BULK AT MOST 1048576: true; the input reads as it did. -/
def stmtTakesUptoRow : OpenClaim := { program := "ythhebinonpoddaa", sum := "6455b37acabd0037107f9380de6228106ae1d36badf62b07a897971781d9bea2", func := "easement/easementlaw18.StmtTakes", spec := "stmtTakes", recurses := true, apart := false, narrowed := true }
def StmtTakesUptoSaid : Prop := stmtTakesUptoRow.holds Try.pinned (OpenSpec.upto stmtTakesSpec)

/-- 'easementlaw18.StmtBack', WHERE WHAT IT READS IS OF BULK AT MOST 1048576: true; the input reads as it did. -/
def stmtBackUptoRow : OpenClaim := { program := "ythhebinonpoddaa", sum := "6455b37acabd0037107f9380de6228106ae1d36badf62b07a897971781d9bea2", func := "easement/easementlaw18.StmtBack", spec := "stmtBack", apart := false, narrowed := true }
def StmtBackUptoSaid : Prop := stmtBackUptoRow.holds Try.pinned (OpenSpec.upto stmtBackSpec)

/-- 'easementlaw19.TermBack', WHERE WHAT IT READS IS OF BULK AT MOST 1048576: true; the input reads as it did. -/
def termBackUptoRow : OpenClaim := { program := "ythhebinonpoddaa", sum := "6455b37acabd0037107f9380de6228106ae1d36badf62b07a897971781d9bea2", func := "easement/easementlaw19.TermBack", spec := "termBack", apart := false, narrowed := true }
def TermBackUptoSaid : Prop := termBackUptoRow.holds Try.pinned (OpenSpec.upto termBackSpec)

/-- 'easementlaw19.TermTakes', WHERE WHAT IT READS IS OF BULK AT MOST 1048576: true; the input reads as it did. -/
def termTakesUptoRow : OpenClaim := { program := "ythhebinonpoddaa", sum := "6455b37acabd0037107f9380de6228106ae1d36badf62b07a897971781d9bea2", func := "easement/easementlaw19.TermTakes", spec := "termTakes", recurses := true, apart := false, narrowed := true }
def TermTakesUptoSaid : Prop := termTakesUptoRow.holds Try.pinned (OpenSpec.upto termTakesSpec)

/-- 'easementlaw17.SigTakes', WHERE WHAT IT READS IS OF BULK AT MOST 1048576: true; the input reads as it did. -/
def sigTakesUptoRow : OpenClaim := { program := "ythhebinonpoddaa", sum := "6455b37acabd0037107f9380de6228106ae1d36badf62b07a897971781d9bea2", func := "easement/easementlaw17.SigTakes", spec := "sigTakes", unfollowed := true, recurses := true, apart := false, narrowed := true }
def SigTakesUptoSaid : Prop := sigTakesUptoRow.holds Try.pinned (OpenSpec.upto sigTakesSpec)

/-- 'easementlaw18.StmtNeeds', WHERE WHAT IT READS IS OF BULK AT MOST 1048576: true; the input reads as it did. -/
def stmtNeedsUptoRow : OpenClaim := { program := "ythhebinonpoddaa", sum := "6455b37acabd0037107f9380de6228106ae1d36badf62b07a897971781d9bea2", func := "easement/easementlaw18.StmtNeeds", spec := "stmtNeeds", unfollowed := true, recurses := true, apart := false, narrowed := true }
def StmtNeedsUptoSaid : Prop := stmtNeedsUptoRow.holds Try.pinned (OpenSpec.upto stmtNeedsSpec)

/-- 'easementlaw17.SigCalls', WHERE WHAT IT READS IS OF BULK AT MOST 1048576: true; the input reads as it did. -/
def sigCallsUptoRow : OpenClaim := { program := "ythhebinonpoddaa", sum := "6455b37acabd0037107f9380de6228106ae1d36badf62b07a897971781d9bea2", func := "easement/easementlaw17.SigCalls", spec := "sigCalls", unfollowed := true, recurses := true, apart := false, narrowed := true }
def SigCallsUptoSaid : Prop := sigCallsUptoRow.holds Try.pinned (OpenSpec.upto sigCallsSpec)

/-- 'easementlaw17.SigBack', WHERE WHAT IT READS IS OF BULK AT MOST 1048576: true; the input reads as it did. -/
def sigBackUptoRow : OpenClaim := { program := "ythhebinonpoddaa", sum := "6455b37acabd0037107f9380de6228106ae1d36badf62b07a897971781d9bea2", func := "easement/easementlaw17.SigBack", spec := "sigBack", unfollowed := true, recurses := true, apart := false, narrowed := true }
def SigBackUptoSaid : Prop := sigBackUptoRow.holds Try.pinned (OpenSpec.upto sigBackSpec)

/-- 'easementlaw19.TermNeeds', WHERE WHAT IT READS IS OF BULK AT MOST 1048576: true; the input reads as it did. -/
def termNeedsUptoRow : OpenClaim := { program := "ythhebinonpoddaa", sum := "6455b37acabd0037107f9380de6228106ae1d36badf62b07a897971781d9bea2", func := "easement/easementlaw19.TermNeeds", spec := "termNeeds", unfollowed := true, recurses := true, apart := false, narrowed := true }
def TermNeedsUptoSaid : Prop := termNeedsUptoRow.holds Try.pinned (OpenSpec.upto termNeedsSpec)

end Rows
end Go.Proofs.Ythhebinonpoddaa
