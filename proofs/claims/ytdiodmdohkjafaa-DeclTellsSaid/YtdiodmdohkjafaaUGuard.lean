/- The kit's words Guard, those alone that this claim's texts name. Lean checks them. -/
import Derived.Test.YtdiodmdohkjafaaUWords
/-! ### 58. A guarded operation whose guard is known to want it: the same goal without the guard -/
namespace Go.Proofs.YtdiodmdohkjafaaW.PrintWords
open Go.RowKit
section
variable {P : Program} {ops : Array Oper} {rest : List Oper} {o : Oper} {a : Act} {Q : Exit → Act → World → Prop} {W : World}
end
end Go.Proofs.YtdiodmdohkjafaaW.PrintWords
