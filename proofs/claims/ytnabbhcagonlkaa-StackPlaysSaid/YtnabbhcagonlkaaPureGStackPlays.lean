/- Pure part of GStackPlays: true at every input: the walk finds it -/
import Derived.Test.YtnabbhcagonlkaaGStackPlaysxopen
import Derived.Laws.BitsLemmas
namespace Go.Proofs.Ytnabbhcagonlkaa.Pure
open Go.RowKit Go.Proofs.Ytnabbhcagonlkaa.GStackPlays Go.Proofs.YtnabbhcagonlkaaW.PrintWords Go.Proofs.YtnabbhcagonlkaaW.PrintLast
set_option linter.unusedSimpArgs false
set_option linter.unusedVariables false

theorem StackPlays : easementlaw07_StackPlays.Pure := fun l0 h0 => if_pos (List.all_eq_true.2 fun x hx => decide_eq_true (bounds_i64 (h0.2 x hx).2))

end Go.Proofs.Ytnabbhcagonlkaa.Pure
