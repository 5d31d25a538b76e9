/- Pure part of GStackTurns: true at every input: the walk finds it -/
import Derived.Test.YtnabbhcagonlkaaGStackTurnsxopen
import Derived.Laws.BitsLemmas
namespace Go.Proofs.Ytnabbhcagonlkaa.Pure
open Go.RowKit Go.Proofs.Ytnabbhcagonlkaa.GStackTurns Go.Proofs.YtnabbhcagonlkaaW.PrintWords Go.Proofs.YtnabbhcagonlkaaW.PrintLast
set_option linter.unusedSimpArgs false
set_option linter.unusedVariables false

theorem StackTurns : easementlaw07_StackTurns.Pure := fun _ _ => rfl

end Go.Proofs.Ytnabbhcagonlkaa.Pure
