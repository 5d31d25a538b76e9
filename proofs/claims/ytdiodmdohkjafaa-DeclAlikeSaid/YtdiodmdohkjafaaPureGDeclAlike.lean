/- Pure part of GDeclAlike: true at every input: the walk finds it -/
import Derived.Test.YtdiodmdohkjafaaGDeclAlikexopen
import Derived.Laws.BitsLemmas
namespace Go.Proofs.Ytdiodmdohkjafaa.Pure
open Go.RowKit Go.Proofs.Ytdiodmdohkjafaa.GDeclAlike Go.Proofs.YtdiodmdohkjafaaW.PrintWords Go.Proofs.YtdiodmdohkjafaaW.PrintLast
set_option linter.unusedSimpArgs false
set_option linter.unusedVariables false

theorem DeclAlike : easementlaw31_DeclAlike.Pure := fun _ _ _ _ _ _ _ _ _ _ => rfl

end Go.Proofs.Ytdiodmdohkjafaa.Pure
