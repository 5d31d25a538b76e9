/- Pure part of GBfsLayers: true at every input: the walk finds it -/
import Derived.Test.YthfpdpjccnnlhaaGBfsLayersxopen
import Derived.Laws.BitsLemmas
namespace Go.Proofs.Ythfpdpjccnnlhaa.Pure
open Go.RowKit Go.Proofs.Ythfpdpjccnnlhaa.GBfsLayers Go.Proofs.YthfpdpjccnnlhaaW.PrintWords Go.Proofs.YthfpdpjccnnlhaaW.PrintLast
set_option linter.unusedSimpArgs false
set_option linter.unusedVariables false

theorem BfsLayers : easementlaw13_BfsLayers.Pure := fun _ _ _ _ _ _ => rfl

end Go.Proofs.Ythfpdpjccnnlhaa.Pure
