/- The kit's words InvWords, those alone that this claim's texts name. Lean checks them. -/
import Derived.Test.YthhebinonpoddaaUInv
import Derived.Test.YthhebinonpoddaaUFootNe
namespace Go.Proofs.YthhebinonpoddaaW.PrintWords
open Go.RowKit
end Go.Proofs.YthhebinonpoddaaW.PrintWords
namespace Go.Proofs.YthhebinonpoddaaW.PrintLast
section
variable {ops : Array Oper} {a : Act} {o og : Oper} {g : Nat} {t : Tmp} {u : Bool}
end
end Go.Proofs.YthhebinonpoddaaW.PrintLast
