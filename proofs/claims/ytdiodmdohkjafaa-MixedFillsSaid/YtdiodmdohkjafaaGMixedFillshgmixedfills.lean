/- Written for this claim by gp.py, a program of this session's, over the kit's print. Lean checks it. -/
import Derived.Test.YtdiodmdohkjafaaGMixedFillsx0
import Derived.Test.YtdiodmdohkjafaaGMixedFillshspMixedFillsa
import Derived.Test.YtdiodmdohkjafaaGMixedFillshspMixedFillsc
import Derived.Test.YtdiodmdohkjafaaGMixedFillshofc
import Derived.Test.YtdiodmdohkjafaaGMixedFillshcfci
namespace Go.Proofs.Ytdiodmdohkjafaa.GMixedFills
open Go.RowKit Go.Proofs.YtdiodmdohkjafaaW.PrintWords Go.Proofs.YtdiodmdohkjafaaW.PrintLast Go.Proofs.YtdiodmdohkjafaaW.PrintMore
attribute [local go_sem] max2_int min2_int max_two min_two max_three min_three max_four min_four   -- for this text's walks alone
set_option linter.unusedVariables false
set_option linter.unusedSimpArgs false

def easementlaw05_MixedFills.f (a0 : Int) (l1 : List Int) (a2 a3 a4 : Int) : Option Bool := some true
theorem easementlaw05_MixedFills.calls (a0 : Int) (A1 : Option Addr) (c1 : Nat) (l1 : List Int) (a2 : Int) (a3 : Int) (a4 : Int) (r : Bool) (w : World) (hr1 : Kd.C (Kd.int .i64) w A1 l1.length l1) (hc1 : l1.length ≤ c1) (h : easementlaw05_MixedFills.f a0 l1 a2 a3 a4 = some r) :
    Calls Try.prog 9 #[.int .i64 a0, .slice A1 l1.length c1, .int .i64 a2, .int .i64 a3, .int .i64 a4] w fun e w' => e = .returned (.bool r) ∧ Below w.heap.size w w' := by
  obtain rfl : true = r := by injection h
  have hd1 := Rd.ofC (f := fun n : Int => [Value.int .i64 n]) (g := fun n : Int => n) 0 (n := 1) rfl (by decide) (fun _ => rfl) (fun _ _ hk => hk) hr1
  rw [List.map_id', cf_ci] at hd1
  have hh := lMixedFills a0 l1 a2 a3 a4 A1 c1 w hd1
  exact hh.mono (fun e w' ⟨he, HS⟩ => ⟨he, HS.kept.below owns_nil⟩)

end Go.Proofs.Ytdiodmdohkjafaa.GMixedFills
