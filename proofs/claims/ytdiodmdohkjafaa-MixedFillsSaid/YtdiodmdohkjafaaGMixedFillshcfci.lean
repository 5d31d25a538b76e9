/- Written for this claim by gp.py, a program of this session's, over the kit's print. Lean checks it. -/
import Derived.Test.YtdiodmdohkjafaaGMixedFillsx0
import Derived.Test.YtdiodmdohkjafaaGMixedFillshspMixedFillsa
namespace Go.Proofs.Ytdiodmdohkjafaa.GMixedFills
open Go.RowKit Go.Proofs.YtdiodmdohkjafaaW.PrintWords Go.Proofs.YtdiodmdohkjafaaW.PrintLast Go.Proofs.YtdiodmdohkjafaaW.PrintMore
attribute [local go_sem] max2_int min2_int max_two min_two max_three min_three max_four min_four   -- for this text's walks alone
set_option linter.unusedVariables false
set_option linter.unusedSimpArgs false

theorem cf_ci (xs : List Int) : cf (fun n : Int => [Value.int .i64 n]) xs = ci .i64 xs := by
  unfold cf ci
  induction xs with
  | nil => rfl
  | cons x xs ih => simp_all

end Go.Proofs.Ytdiodmdohkjafaa.GMixedFills
