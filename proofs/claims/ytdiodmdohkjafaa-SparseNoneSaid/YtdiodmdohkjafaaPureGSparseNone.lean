/- Pure part of GSparseNone: true at every input: the walk finds it -/
import Derived.Test.YtdiodmdohkjafaaGSparseNonexopen
import Derived.Laws.BitsLemmas
namespace Go.Proofs.Ytdiodmdohkjafaa.Pure
open Go.RowKit Go.Proofs.Ytdiodmdohkjafaa.GSparseNone Go.Proofs.YtdiodmdohkjafaaW.PrintWords Go.Proofs.YtdiodmdohkjafaaW.PrintLast
set_option linter.unusedSimpArgs false
set_option linter.unusedVariables false

theorem SparseNone : easementlaw04_SparseNone.Pure := fun _ _ _ _ => rfl

end Go.Proofs.Ytdiodmdohkjafaa.Pure
