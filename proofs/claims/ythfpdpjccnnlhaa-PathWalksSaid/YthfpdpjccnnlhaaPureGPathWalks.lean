/- Pure part of GPathWalks: true at every input: the walk finds it -/
import Derived.Test.YthfpdpjccnnlhaaGPathWalksxopen
import Derived.Laws.BitsLemmas
namespace Go.Proofs.Ythfpdpjccnnlhaa.Pure
open Go.RowKit Go.Proofs.Ythfpdpjccnnlhaa.GPathWalks Go.Proofs.YthfpdpjccnnlhaaW.PrintWords Go.Proofs.YthfpdpjccnnlhaaW.PrintLast
set_option linter.unusedSimpArgs false
set_option linter.unusedVariables false

theorem PathWalks : easementlaw14_PathWalks.Pure := fun _ _ _ _ _ _ _ _ _ _ => rfl

end Go.Proofs.Ythfpdpjccnnlhaa.Pure
