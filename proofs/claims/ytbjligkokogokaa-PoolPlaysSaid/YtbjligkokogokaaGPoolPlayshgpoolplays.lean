/- Written for this claim by gp.py, a program of this session's, over the kit's print. Lean checks it. -/
import Derived.Test.YtbjligkokogokaaGPoolPlaysx0
import Derived.Test.YtbjligkokogokaaGPoolPlayshspPoolPlaysa
import Derived.Test.YtbjligkokogokaaGPoolPlayshspPoolPlaysb
import Derived.Test.YtbjligkokogokaaGPoolPlayshspPoolPlaysd
import Derived.Test.YtbjligkokogokaaGPoolPlayshofc
namespace Go.Proofs.Ytbjligkokogokaa.GPoolPlays
open Go.RowKit Go.Proofs.YtbjligkokogokaaW.PrintWords Go.Proofs.YtbjligkokogokaaW.PrintLast Go.Proofs.YtbjligkokogokaaW.PrintMore
attribute [local go_sem] max2_int min2_int max_two min_two max_three min_three max_four min_four   -- for this text's walks alone
set_option linter.unusedVariables false
set_option linter.unusedSimpArgs false

def easementlaw39_PoolPlays.f (a0 a1 : Int) (l2 : List S34) : Option Bool := some true
theorem easementlaw39_PoolPlays.calls (a0 : Int) (a1 : Int) (A2 : Option Addr) (c2 : Nat) (l2 : List (S34)) (r : Bool) (w : World) (hr2 : Kd.C k34 w A2 l2.length l2) (hc2 : l2.length ≤ c2) (h : easementlaw39_PoolPlays.f a0 a1 l2 = some r) :
    Calls Try.prog 3 #[.int .i64 a0, .int .i64 a1, .slice A2 l2.length c2] w fun e w' => e = .returned (.bool r) ∧ Below w.heap.size w w' := by
  obtain rfl : true = r := by injection h
  have hh := PoolPlays_walk a0 a1 A2 c2 (l2.map fun x => (x.f0, x.f1)) w (Rd.ofC (f := actC) (g := fun x : S34 => (x.f0, x.f1)) z34 (n := 2) rfl (by decide) (fun _ => rfl) (fun _ _ hk => k34_open hk) hr2)
  rw [List.length_map] at hh
  exact hh.mono (fun e w' ⟨he, HS⟩ => ⟨he, HS.kept.below owns_nil⟩)

end Go.Proofs.Ytbjligkokogokaa.GPoolPlays
