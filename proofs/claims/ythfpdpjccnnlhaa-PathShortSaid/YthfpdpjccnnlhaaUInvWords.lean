/- The kit's words InvWords, those alone that this claim's texts name. Lean checks them. -/
import Derived.Test.YthfpdpjccnnlhaaUInv
import Derived.Test.YthfpdpjccnnlhaaUFootNe
namespace Go.Proofs.YthfpdpjccnnlhaaW.PrintWords
open Go.RowKit
end Go.Proofs.YthfpdpjccnnlhaaW.PrintWords
namespace Go.Proofs.YthfpdpjccnnlhaaW.PrintLast
section
variable {ops : Array Oper} {a : Act} {o og : Oper} {g : Nat} {t : Tmp} {u : Bool}
end
end Go.Proofs.YthfpdpjccnnlhaaW.PrintLast
