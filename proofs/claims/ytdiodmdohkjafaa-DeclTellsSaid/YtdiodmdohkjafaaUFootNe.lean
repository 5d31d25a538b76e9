/- The kit's words FootNe, those alone that this claim's texts name. Lean checks them. -/
import Derived.Test.YtdiodmdohkjafaaUN
/-! ### 52. A row that stays read whatever happens to a block (a set of blocks) doesn't lie there -/
namespace Go.Proofs.YtdiodmdohkjafaaW.PrintWords
open Go.RowKit
namespace Kd
section
variable {α : Type} {d : Kd α} {W : World} {g n : Nat} {S ok : Nat → Prop} {A : Option Addr} {ad : Addr} {xs : List α}
end
end Kd
end Go.Proofs.YtdiodmdohkjafaaW.PrintWords
