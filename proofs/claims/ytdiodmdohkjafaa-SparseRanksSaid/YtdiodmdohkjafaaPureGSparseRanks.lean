/- Pure part of GSparseRanks: true at every input: the walk finds it -/
import Derived.Test.YtdiodmdohkjafaaGSparseRanksxopen
import Derived.Laws.BitsLemmas
namespace Go.Proofs.Ytdiodmdohkjafaa.Pure
open Go.RowKit Go.Proofs.Ytdiodmdohkjafaa.GSparseRanks Go.Proofs.YtdiodmdohkjafaaW.PrintWords Go.Proofs.YtdiodmdohkjafaaW.PrintLast
set_option linter.unusedSimpArgs false
set_option linter.unusedVariables false

theorem SparseRanks : easementlaw04_SparseRanks.Pure := fun _ _ _ _ _ _ => rfl

end Go.Proofs.Ytdiodmdohkjafaa.Pure
