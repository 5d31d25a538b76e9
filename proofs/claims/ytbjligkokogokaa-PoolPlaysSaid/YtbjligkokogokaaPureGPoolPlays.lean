/- Pure part of GPoolPlays: true at every input: the walk finds it -/
import Derived.Test.YtbjligkokogokaaGPoolPlaysxopen
import Derived.Laws.BitsLemmas
namespace Go.Proofs.Ytbjligkokogokaa.Pure
open Go.RowKit Go.Proofs.Ytbjligkokogokaa.GPoolPlays Go.Proofs.YtbjligkokogokaaW.PrintWords Go.Proofs.YtbjligkokogokaaW.PrintLast
set_option linter.unusedSimpArgs false
set_option linter.unusedVariables false

theorem PoolPlays : easementlaw39_PoolPlays.Pure := fun _ _ _ _ _ _ => rfl

end Go.Proofs.Ytbjligkokogokaa.Pure
