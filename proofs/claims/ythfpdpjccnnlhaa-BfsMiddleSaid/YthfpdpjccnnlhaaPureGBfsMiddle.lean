/- Pure part of GBfsMiddle: true at every input: the walk finds it -/
import Derived.Test.YthfpdpjccnnlhaaGBfsMiddlexopen
import Derived.Laws.BitsLemmas
namespace Go.Proofs.Ythfpdpjccnnlhaa.Pure
open Go.RowKit Go.Proofs.Ythfpdpjccnnlhaa.GBfsMiddle Go.Proofs.YthfpdpjccnnlhaaW.PrintWords Go.Proofs.YthfpdpjccnnlhaaW.PrintLast
set_option linter.unusedSimpArgs false
set_option linter.unusedVariables false

theorem BfsMiddle : easementlaw13_BfsMiddle.Pure := fun _ _ _ _ _ _ _ _ _ _ => rfl

end Go.Proofs.Ythfpdpjccnnlhaa.Pure
