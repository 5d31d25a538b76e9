/- Pure part of GSparsePlays: true at every input: the walk finds it -/
import Derived.Test.YtdiodmdohkjafaaGSparsePlaysxopen
import Derived.Laws.BitsLemmas
namespace Go.Proofs.Ytdiodmdohkjafaa.Pure
open Go.RowKit Go.Proofs.Ytdiodmdohkjafaa.GSparsePlays Go.Proofs.YtdiodmdohkjafaaW.PrintWords Go.Proofs.YtdiodmdohkjafaaW.PrintLast
set_option linter.unusedSimpArgs false
set_option linter.unusedVariables false

theorem SparsePlays : easementlaw04_SparsePlays.Pure := fun _ _ _ _ _ _ _ _ => rfl

end Go.Proofs.Ytdiodmdohkjafaa.Pure
