/- The kit's words InvWords, those alone that this claim's texts name. Lean checks them. -/
import Derived.Test.YtdiodmdohkjafaaUInv
import Derived.Test.YtdiodmdohkjafaaUFootNe
namespace Go.Proofs.YtdiodmdohkjafaaW.PrintWords
open Go.RowKit
end Go.Proofs.YtdiodmdohkjafaaW.PrintWords
namespace Go.Proofs.YtdiodmdohkjafaaW.PrintLast
section
variable {ops : Array Oper} {a : Act} {o og : Oper} {g : Nat} {t : Tmp} {u : Bool}
end
end Go.Proofs.YtdiodmdohkjafaaW.PrintLast
