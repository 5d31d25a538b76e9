/- Pure part of GGraphReaches: true at every input: the walk finds it -/
import Derived.Test.YthfpdpjccnnlhaaGGraphReachesxopen
import Derived.Laws.BitsLemmas
namespace Go.Proofs.Ythfpdpjccnnlhaa.Pure
open Go.RowKit Go.Proofs.Ythfpdpjccnnlhaa.GGraphReaches Go.Proofs.YthfpdpjccnnlhaaW.PrintWords Go.Proofs.YthfpdpjccnnlhaaW.PrintLast
set_option linter.unusedSimpArgs false
set_option linter.unusedVariables false

theorem GraphReaches : easementlaw10_GraphReaches.Pure := fun _ _ _ _ _ _ => rfl

end Go.Proofs.Ythfpdpjccnnlhaa.Pure
