/- Pure part of GDeclTells: true at every input: the walk finds it -/
import Derived.Test.YtdiodmdohkjafaaGDeclTellsxopen
import Derived.Laws.BitsLemmas
namespace Go.Proofs.Ytdiodmdohkjafaa.Pure
open Go.RowKit Go.Proofs.Ytdiodmdohkjafaa.GDeclTells Go.Proofs.YtdiodmdohkjafaaW.PrintWords Go.Proofs.YtdiodmdohkjafaaW.PrintLast
set_option linter.unusedSimpArgs false
set_option linter.unusedVariables false

theorem DeclTells : easementlaw31_DeclTells.Pure := fun _ _ _ _ _ _ _ _ _ _ => rfl

end Go.Proofs.Ytdiodmdohkjafaa.Pure
