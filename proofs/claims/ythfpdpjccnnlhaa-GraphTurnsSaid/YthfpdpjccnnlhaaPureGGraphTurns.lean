/- Pure part of GGraphTurns: true at every input: the walk finds it -/
import Derived.Test.YthfpdpjccnnlhaaGGraphTurnsxopen
import Derived.Laws.BitsLemmas
namespace Go.Proofs.Ythfpdpjccnnlhaa.Pure
open Go.RowKit Go.Proofs.Ythfpdpjccnnlhaa.GGraphTurns Go.Proofs.YthfpdpjccnnlhaaW.PrintWords Go.Proofs.YthfpdpjccnnlhaaW.PrintLast
set_option linter.unusedSimpArgs false
set_option linter.unusedVariables false

theorem GraphTurns : easementlaw10_GraphTurns.Pure := fun _ _ _ _ _ _ => rfl

end Go.Proofs.Ythfpdpjccnnlhaa.Pure
