/-
  No cell of these rows narrows 'for every input' (looked for: loops, veiled, ifaces, maps, wideKeys, modest, calm, conditions, laid).
  DERIVED. THE GIVEN ROWS OF THIS SEAT. 7 by the template 'for every input the law returns true; each argument reads behind the call as it read before'; 0 by the template 'total and deterministic' (their statements: YtdiodmdohkjafaaTotals.lean).
  GIVEN WITH THE SEED: the statements are not yours to turn. If you find one false, say at which input.
  Laid BY PROGRAM, IN A SANDBOX (cutbox-rows.mjs): the forced cells as the released guide's own fill.sh prints them over the translation a76cce0f15d4073c… (all of the seat's roots in one cut). By AI agents, Wed Nov 11 2026. No macro, syntax, notation, axiom, sorry.
-/
import Derived.Test.YtdiodmdohkjafaaChecked
import GoSem.Claim
import GoSem.ClaimJoined
import GoSem.ClaimMapViews
import Derived.JoinedTies
import Derived.KernelRfl
namespace Go.Proofs.Ytdiodmdohkjafaa
/- THE CELL 'sum', in the pinned program and in every row, IS THE sha256 OF THE DUMP (.gsa) THAT YtdiodmdohkjafaaProg.lean LOADS. Nothing in Lean hashes anything: it is a label: what it is worth is what the hold of that sum in a sandbox is worth. -/
noncomputable def Try.pinned : Pinned := { name := "ytdiodmdohkjafaa", sum := "a76cce0f15d4073cbe0d37daa4a8f0dc9cb4c022c0c04aa02c4820dba0efb004", checked := Try.checked }
namespace Rows
def none {H : Type} : Left H := { results := [], args := [] }

/-- 'easementlaw04.SparseRanks': WHATEVER THE INPUT: true; the input reads as it did. -/
def sparseRanksSpec : ChangeSpec := { name := "sparseRanks", fn := fun _ => fun
  | [d1, d2, d3] => { results := [.lit (.bool true)], args := [d1, d2, d3] }
  | _ => none }
def sparseRanksRow : OpenClaim := { program := "ytdiodmdohkjafaa", sum := "a76cce0f15d4073cbe0d37daa4a8f0dc9cb4c022c0c04aa02c4820dba0efb004", func := "easement/easementlaw04.SparseRanks", spec := "sparseRanks", inPlace := ["slices.overlaps[int32]"], unfollowed := true, recurses := true, apart := false }
def SparseRanksSaid : Prop := sparseRanksRow.holds Try.pinned (OpenSpec.ofChange sparseRanksSpec)

/-- ITS FALSE NEIGHBOUR: 'it returns false'. Refute it at one input. -/
def sparseRanksWrong : ChangeSpec := { name := "sparseRanks", fn := fun _ => fun
  | [d1, d2, d3] => { results := [.lit (.bool false)], args := [d1, d2, d3] }
  | _ => none }
def SparseRanksWrongFalsely : Prop := sparseRanksRow.holds Try.pinned (OpenSpec.ofChange sparseRanksWrong)

/-- 'easementlaw31.DeclAlike': WHATEVER THE INPUT: true; the input reads as it did. -/
def declAlikeSpec : ChangeSpec := { name := "declAlike", fn := fun _ => fun
  | [d1, d2, d3, d4, d5] => { results := [.lit (.bool true)], args := [d1, d2, d3, d4, d5] }
  | _ => none }
def declAlikeRow : OpenClaim := { program := "ytdiodmdohkjafaa", sum := "a76cce0f15d4073cbe0d37daa4a8f0dc9cb4c022c0c04aa02c4820dba0efb004", func := "easement/easementlaw31.DeclAlike", spec := "declAlike", unfollowed := true, recurses := true, apart := false }
def DeclAlikeSaid : Prop := declAlikeRow.holds Try.pinned (OpenSpec.ofChange declAlikeSpec)

/-- ITS FALSE NEIGHBOUR: 'it returns false'. Refute it at one input. -/
def declAlikeWrong : ChangeSpec := { name := "declAlike", fn := fun _ => fun
  | [d1, d2, d3, d4, d5] => { results := [.lit (.bool false)], args := [d1, d2, d3, d4, d5] }
  | _ => none }
def DeclAlikeWrongFalsely : Prop := declAlikeRow.holds Try.pinned (OpenSpec.ofChange declAlikeWrong)

/-- 'easementlaw04.SparsePlays': WHATEVER THE INPUT: true; the input reads as it did. -/
def sparsePlaysSpec : ChangeSpec := { name := "sparsePlays", fn := fun _ => fun
  | [d1, d2, d3, d4] => { results := [.lit (.bool true)], args := [d1, d2, d3, d4] }
  | _ => none }
def sparsePlaysRow : OpenClaim := { program := "ytdiodmdohkjafaa", sum := "a76cce0f15d4073cbe0d37daa4a8f0dc9cb4c022c0c04aa02c4820dba0efb004", func := "easement/easementlaw04.SparsePlays", spec := "sparsePlays", inPlace := ["slices.overlaps[int32]"], unfollowed := true, recurses := true, apart := false }
def SparsePlaysSaid : Prop := sparsePlaysRow.holds Try.pinned (OpenSpec.ofChange sparsePlaysSpec)

/-- ITS FALSE NEIGHBOUR: 'it returns false'. Refute it at one input. -/
def sparsePlaysWrong : ChangeSpec := { name := "sparsePlays", fn := fun _ => fun
  | [d1, d2, d3, d4] => { results := [.lit (.bool false)], args := [d1, d2, d3, d4] }
  | _ => none }
def SparsePlaysWrongFalsely : Prop := sparsePlaysRow.holds Try.pinned (OpenSpec.ofChange sparsePlaysWrong)

/-- 'easementlaw04.SparseNone': WHATEVER THE INPUT: true; the input reads as it did. -/
def sparseNoneSpec : ChangeSpec := { name := "sparseNone", fn := fun _ => fun
  | [d1, d2] => { results := [.lit (.bool true)], args := [d1, d2] }
  | _ => none }
def sparseNoneRow : OpenClaim := { program := "ytdiodmdohkjafaa", sum := "a76cce0f15d4073cbe0d37daa4a8f0dc9cb4c022c0c04aa02c4820dba0efb004", func := "easement/easementlaw04.SparseNone", spec := "sparseNone", inPlace := ["slices.overlaps[int32]"], unfollowed := true, recurses := true, apart := false }
def SparseNoneSaid : Prop := sparseNoneRow.holds Try.pinned (OpenSpec.ofChange sparseNoneSpec)

/-- ITS FALSE NEIGHBOUR: 'it returns false'. Refute it at one input. -/
def sparseNoneWrong : ChangeSpec := { name := "sparseNone", fn := fun _ => fun
  | [d1, d2] => { results := [.lit (.bool false)], args := [d1, d2] }
  | _ => none }
def SparseNoneWrongFalsely : Prop := sparseNoneRow.holds Try.pinned (OpenSpec.ofChange sparseNoneWrong)

/-- 'easementlaw31.DeclTells': WHATEVER THE INPUT: true; the input reads as it did. -/
def declTellsSpec : ChangeSpec := { name := "declTells", fn := fun _ => fun
  | [d1, d2, d3, d4, d5] => { results := [.lit (.bool true)], args := [d1, d2, d3, d4, d5] }
  | _ => none }
def declTellsRow : OpenClaim := { program := "ytdiodmdohkjafaa", sum := "a76cce0f15d4073cbe0d37daa4a8f0dc9cb4c022c0c04aa02c4820dba0efb004", func := "easement/easementlaw31.DeclTells", spec := "declTells", unfollowed := true, recurses := true, apart := false }
def DeclTellsSaid : Prop := declTellsRow.holds Try.pinned (OpenSpec.ofChange declTellsSpec)

/-- ITS FALSE NEIGHBOUR: 'it returns false'. Refute it at one input. -/
def declTellsWrong : ChangeSpec := { name := "declTells", fn := fun _ => fun
  | [d1, d2, d3, d4, d5] => { results := [.lit (.bool false)], args := [d1, d2, d3, d4, d5] }
  | _ => none }
def DeclTellsWrongFalsely : Prop := declTellsRow.holds Try.pinned (OpenSpec.ofChange declTellsWrong)

/-- 'easementlaw31.DeclGrows': WHATEVER THE INPUT: true; the input reads as it did. -/
def declGrowsSpec : ChangeSpec := { name := "declGrows", fn := fun _ => fun
  | [d1, d2, d3] => { results := [.lit (.bool true)], args := [d1, d2, d3] }
  | _ => none }
def declGrowsRow : OpenClaim := { program := "ytdiodmdohkjafaa", sum := "a76cce0f15d4073cbe0d37daa4a8f0dc9cb4c022c0c04aa02c4820dba0efb004", func := "easement/easementlaw31.DeclGrows", spec := "declGrows", unfollowed := true, recurses := true, apart := false }
def DeclGrowsSaid : Prop := declGrowsRow.holds Try.pinned (OpenSpec.ofChange declGrowsSpec)

/-- ITS FALSE NEIGHBOUR: 'it returns false'. Refute it at one input. -/
def declGrowsWrong : ChangeSpec := { name := "declGrows", fn := fun _ => fun
  | [d1, d2, d3] => { results := [.lit (.bool false)], args := [d1, d2, d3] }
  | _ => none }
def DeclGrowsWrongFalsely : Prop := declGrowsRow.holds Try.pinned (OpenSpec.ofChange declGrowsWrong)

/-- 'easementlaw05.MixedFills': WHATEVER THE INPUT: true; the input reads as it did. -/
def mixedFillsSpec : ChangeSpec := { name := "mixedFills", fn := fun _ => fun
  | [d1, d2, d3, d4, d5] => { results := [.lit (.bool true)], args := [d1, d2, d3, d4, d5] }
  | _ => none }
def mixedFillsRow : OpenClaim := { program := "ytdiodmdohkjafaa", sum := "a76cce0f15d4073cbe0d37daa4a8f0dc9cb4c022c0c04aa02c4820dba0efb004", func := "easement/easementlaw05.MixedFills", spec := "mixedFills", inPlace := ["slices.overlaps[int32]"], unfollowed := true, recurses := true, apart := false }
def MixedFillsSaid : Prop := mixedFillsRow.holds Try.pinned (OpenSpec.ofChange mixedFillsSpec)

/-- ITS FALSE NEIGHBOUR: 'it returns false'. Refute it at one input. -/
def mixedFillsWrong : ChangeSpec := { name := "mixedFills", fn := fun _ => fun
  | [d1, d2, d3, d4, d5] => { results := [.lit (.bool false)], args := [d1, d2, d3, d4, d5] }
  | _ => none }
def MixedFillsWrongFalsely : Prop := mixedFillsRow.holds Try.pinned (OpenSpec.ofChange mixedFillsWrong)

/- THE SECOND FORM. 'bulk': how many values and letters a reading holds, each counted each time it is reached (what is shared counts as often as it is met; a slice's spare places count too). A statement '..UptoSaid' is the law's where the arguments, and the package variables that the reading takes, are together of bulk at most 1048576: NARROWER than '..Said'. Prove '..Said' where nothing that the law and all that it calls make is longer than what came in: it says more and counts as full. Else prove '..UptoSaid'. A law counts once. -/
mutual
def uptoBulk {H : Type} : DataW H → Nat
  | .lit (.string bytes) => bytes.length + 1
  | .lit _ => 1
  | .nil => 1
  | .ptr d => uptoBulk d + 1
  | .slice elems spare => uptoBulkAll elems + uptoBulkAll spare + 1
  | .agg parts => uptoBulkAll parts + 1
  | .iface _ d => uptoBulk d + 1
  | .map entries => uptoBulkEntries entries + 1
  | .held _ => 1
def uptoBulkAll {H : Type} : List (DataW H) → Nat
  | [] => 0
  | d :: r => uptoBulk d + uptoBulkAll r
def uptoBulkEntries {H : Type} : List (Lit × DataW H) → Nat
  | [] => 0
  | x :: r => uptoBulkEntry x + uptoBulkEntries r
def uptoBulkEntry {H : Type} : Lit × DataW H → Nat
  | (.string bytes, d) => bytes.length + uptoBulk d + 1
  | (_, d) => uptoBulk d + 1
 end
def uptoSmall : (H : Type) → List (DataW H) → Bool := fun _ ds => decide (uptoBulkAll ds ≤ 1048576)
def OpenSpec.upto (s : _root_.Go.ChangeSpec) : _root_.Go.OpenSpec := { _root_.Go.OpenSpec.ofChange s with cond := some uptoSmall }

/-- 'easementlaw04.SparseRanks', WHERE WHAT IT READS IS OF BULK AT MOST 1048576: true; the input reads as it did. -/
def sparseRanksUptoRow : OpenClaim := { program := "ytdiodmdohkjafaa", sum := "a76cce0f15d4073cbe0d37daa4a8f0dc9cb4c022c0c04aa02c4820dba0efb004", func := "easement/easementlaw04.SparseRanks", spec := "sparseRanks", inPlace := ["slices.overlaps[int32]"], unfollowed := true, recurses := true, apart := false, narrowed := true }
def SparseRanksUptoSaid : Prop := sparseRanksUptoRow.holds Try.pinned (OpenSpec.upto sparseRanksSpec)

/-- 'easementlaw31.DeclAlike', WHERE WHAT IT READS IS OF BULK AT MOST 1048576: true; the input reads as it did. -/
def declAlikeUptoRow : OpenClaim := { program := "ytdiodmdohkjafaa", sum := "a76cce0f15d4073cbe0d37daa4a8f0dc9cb4c022c0c04aa02c4820dba0efb004", func := "easement/easementlaw31.DeclAlike", spec := "declAlike", unfollowed := true, recurses := true, apart := false, narrowed := true }
def DeclAlikeUptoSaid : Prop := declAlikeUptoRow.holds Try.pinned (OpenSpec.upto declAlikeSpec)

/-- 'easementlaw04.SparsePlays', WHERE WHAT IT READS IS OF BULK AT MOST 1048576: true; the input reads as it did. -/
def sparsePlaysUptoRow : OpenClaim := { program := "ytdiodmdohkjafaa", sum := "a76cce0f15d4073cbe0d37daa4a8f0dc9cb4c022c0c04aa02c4820dba0efb004", func := "easement/easementlaw04.SparsePlays", spec := "sparsePlays", inPlace := ["slices.overlaps[int32]"], unfollowed := true, recurses := true, apart := false, narrowed := true }
def SparsePlaysUptoSaid : Prop := sparsePlaysUptoRow.holds Try.pinned (OpenSpec.upto sparsePlaysSpec)

/-- 'easementlaw04.SparseNone', WHERE WHAT IT READS IS OF BULK AT MOST 1048576: true; the input reads as it did. -/
def sparseNoneUptoRow : OpenClaim := { program := "ytdiodmdohkjafaa", sum := "a76cce0f15d4073cbe0d37daa4a8f0dc9cb4c022c0c04aa02c4820dba0efb004", func := "easement/easementlaw04.SparseNone", spec := "sparseNone", inPlace := ["slices.overlaps[int32]"], unfollowed := true, recurses := true, apart := false, narrowed := true }
def SparseNoneUptoSaid : Prop := sparseNoneUptoRow.holds Try.pinned (OpenSpec.upto sparseNoneSpec)

/-- 'easementlaw31.DeclTells', WHERE WHAT IT READS IS OF BULK AT MOST 1048576: true; the input reads as it did. -/
def declTellsUptoRow : OpenClaim := { program := "ytdiodmdohkjafaa", sum := "a76cce0f15d4073cbe0d37daa4a8f0dc9cb4c022c0c04aa02c4820dba0efb004", func := "easement/easementlaw31.DeclTells", spec := "declTells", unfollowed := true, recurses := true, apart := false, narrowed := true }
def DeclTellsUptoSaid : Prop := declTellsUptoRow.holds Try.pinned (OpenSpec.upto declTellsSpec)

/-- 'easementlaw31.DeclGrows', WHERE WHAT IT READS IS OF BULK AT MOST 1048576: true; the input reads as it did. -/
def declGrowsUptoRow : OpenClaim := { program := "ytdiodmdohkjafaa", sum := "a76cce0f15d4073cbe0d37daa4a8f0dc9cb4c022c0c04aa02c4820dba0efb004", func := "easement/easementlaw31.DeclGrows", spec := "declGrows", unfollowed := true, recurses := true, apart := false, narrowed := true }
def DeclGrowsUptoSaid : Prop := declGrowsUptoRow.holds Try.pinned (OpenSpec.upto declGrowsSpec)

/-- 'easementlaw05.MixedFills', WHERE WHAT IT READS IS OF BULK AT MOST 1048576: true; the input reads as it did. -/
def mixedFillsUptoRow : OpenClaim := { program := "ytdiodmdohkjafaa", sum := "a76cce0f15d4073cbe0d37daa4a8f0dc9cb4c022c0c04aa02c4820dba0efb004", func := "easement/easementlaw05.MixedFills", spec := "mixedFills", inPlace := ["slices.overlaps[int32]"], unfollowed := true, recurses := true, apart := false, narrowed := true }
def MixedFillsUptoSaid : Prop := mixedFillsUptoRow.holds Try.pinned (OpenSpec.upto mixedFillsSpec)

end Rows
end Go.Proofs.Ytdiodmdohkjafaa
