/- Pure part of GTickCounts: how many steps there were of any part, and of all, is as the document says; a nil counter counts nothing -/
import Derived.Test.YtnabbhcagonlkaaGTickCountsxopen
import Derived.Laws.BitsLemmas
namespace Go.Proofs.Ytnabbhcagonlkaa.Pure
open Go.RowKit Go.Proofs.Ytnabbhcagonlkaa.GTickCounts Go.Proofs.YtnabbhcagonlkaaW.PrintWords Go.Proofs.YtnabbhcagonlkaaW.PrintLast
set_option linter.unusedSimpArgs false
set_option linter.unusedVariables false

theorem TickCounts : easementlaw09_TickCounts.Pure := by
  intro l a ⟨_, hl⟩ _
  unfold easementlaw09_TickCounts.f
  rw [if_pos]
  refine List.all_eq_true.2 (fun x hx => decide_eq_true ?_)
  have h : (Lit.int .i64 x.f1).wf = true := (hl x hx).2
  simp [Lit.wf, IntKind.min, IntKind.max, IntKind.signed, IntKind.bits] at h
  omega

end Go.Proofs.Ytnabbhcagonlkaa.Pure
