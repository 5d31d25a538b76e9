/- Written for this claim by gp.py, a program of this session's, over the kit's print. Lean checks it. -/
import Derived.Test.YtdiodmdohkjafaaGSparseNonex0
import Derived.Test.YtdiodmdohkjafaaGSparseNonehspSparseNonea
import Derived.Test.YtdiodmdohkjafaaGSparseNonehspSparseNoneb
import Derived.Test.YtdiodmdohkjafaaGSparseNonehofc
import Derived.Test.YtdiodmdohkjafaaGSparseNonehcfci
namespace Go.Proofs.Ytdiodmdohkjafaa.GSparseNone
open Go.RowKit Go.Proofs.YtdiodmdohkjafaaW.PrintWords Go.Proofs.YtdiodmdohkjafaaW.PrintLast Go.Proofs.YtdiodmdohkjafaaW.PrintMore
attribute [local go_sem] max2_int min2_int max_two min_two max_three min_three max_four min_four   -- for this text's walks alone
set_option linter.unusedVariables false
set_option linter.unusedSimpArgs false

def easementlaw04_SparseNone.f (a0 : Int) (l1 : List Int) : Option Bool := some true
theorem easementlaw04_SparseNone.calls (a0 : Int) (A1 : Option Addr) (c1 : Nat) (l1 : List Int) (r : Bool) (w : World) (hr1 : Kd.C (Kd.int .i64) w A1 l1.length l1) (hc1 : l1.length ≤ c1) (h : easementlaw04_SparseNone.f a0 l1 = some r) :
    Calls Try.prog 6 #[.int .i64 a0, .slice A1 l1.length c1] w fun e w' => e = .returned (.bool r) ∧ Below w.heap.size w w' := by
  obtain rfl : true = r := by injection h
  have hd1 := Rd.ofC (f := fun n : Int => [Value.int .i64 n]) (g := fun n : Int => n) 0 (n := 1) rfl (by decide) (fun _ => rfl) (fun _ _ hk => hk) hr1
  rw [List.map_id', cf_ci] at hd1
  have hh := lSparseNone a0 l1 A1 c1 w hd1
  exact hh.mono (fun e w' ⟨he, HS⟩ => ⟨he, HS.kept.below owns_nil⟩)

end Go.Proofs.Ytdiodmdohkjafaa.GSparseNone
