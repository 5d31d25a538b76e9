/- The kit's words EqStruct, those alone that this claim's texts name. Lean checks them. -/
import Derived.Test.YtdiodmdohkjafaaUWords
import Derived.Laws.StructEq
/-! ### 53. '==' of structs as_ one Bool -/
namespace Go.Proofs.YtdiodmdohkjafaaW.PrintWords
open Go.RowKit
section
variable {P : Program} {d : Nat} {xs ys : Array Value} {f : Field} {fs : List Field} {a b : Value} {r s : Bool} {w : World}
end
end Go.Proofs.YtdiodmdohkjafaaW.PrintWords
