/- Pure part of GDeclGrows: true at every input: the walk finds it -/
import Derived.Test.YtdiodmdohkjafaaGDeclGrowsxopen
import Derived.Laws.BitsLemmas
namespace Go.Proofs.Ytdiodmdohkjafaa.Pure
open Go.RowKit Go.Proofs.Ytdiodmdohkjafaa.GDeclGrows Go.Proofs.YtdiodmdohkjafaaW.PrintWords Go.Proofs.YtdiodmdohkjafaaW.PrintLast
set_option linter.unusedSimpArgs false
set_option linter.unusedVariables false

theorem DeclGrows : easementlaw31_DeclGrows.Pure := fun _ _ _ _ _ _ => rfl

end Go.Proofs.Ytdiodmdohkjafaa.Pure
