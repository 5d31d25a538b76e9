/- Pure part of GMixedFills: true at every input: the walk finds it -/
import Derived.Test.YtdiodmdohkjafaaGMixedFillsxopen
import Derived.Laws.BitsLemmas
namespace Go.Proofs.Ytdiodmdohkjafaa.Pure
open Go.RowKit Go.Proofs.Ytdiodmdohkjafaa.GMixedFills Go.Proofs.YtdiodmdohkjafaaW.PrintWords Go.Proofs.YtdiodmdohkjafaaW.PrintLast
set_option linter.unusedSimpArgs false
set_option linter.unusedVariables false

theorem MixedFills : easementlaw05_MixedFills.Pure := fun _ _ _ _ _ _ _ _ _ _ => rfl

end Go.Proofs.Ytdiodmdohkjafaa.Pure
