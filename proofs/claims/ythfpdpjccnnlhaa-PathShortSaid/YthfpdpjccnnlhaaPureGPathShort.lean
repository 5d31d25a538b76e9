/- Pure part of GPathShort: true at every input: the walk finds it -/
import Derived.Test.YthfpdpjccnnlhaaGPathShortxopen
import Derived.Laws.BitsLemmas
namespace Go.Proofs.Ythfpdpjccnnlhaa.Pure
open Go.RowKit Go.Proofs.Ythfpdpjccnnlhaa.GPathShort Go.Proofs.YthfpdpjccnnlhaaW.PrintWords Go.Proofs.YthfpdpjccnnlhaaW.PrintLast
set_option linter.unusedSimpArgs false
set_option linter.unusedVariables false

theorem PathShort : easementlaw14_PathShort.Pure := fun _ _ _ _ _ _ _ _ => rfl

end Go.Proofs.Ythfpdpjccnnlhaa.Pure
