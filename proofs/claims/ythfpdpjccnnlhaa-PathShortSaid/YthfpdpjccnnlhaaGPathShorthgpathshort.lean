/- Written for this claim by gp.py, a program of this session's, over the kit's print. Lean checks it. -/
import Derived.Test.YthfpdpjccnnlhaaGPathShortx0
import Derived.Test.YthfpdpjccnnlhaaGPathShorthspPathShorta
import Derived.Test.YthfpdpjccnnlhaaGPathShorthspPathShortf
import Derived.Test.YthfpdpjccnnlhaaGPathShorthofc
namespace Go.Proofs.Ythfpdpjccnnlhaa.GPathShort
open Go.RowKit Go.Proofs.YthfpdpjccnnlhaaW.PrintWords Go.Proofs.YthfpdpjccnnlhaaW.PrintLast Go.Proofs.YthfpdpjccnnlhaaW.PrintMore
attribute [local go_sem] max2_int min2_int max_two min_two max_three min_three max_four min_four   -- for this text's walks alone
set_option linter.unusedVariables false
set_option linter.unusedSimpArgs false

def easementlaw14_PathShort.f (a0 : Int) (l1 : List S38) (a2 a3 : Int) : Option Bool := some true
theorem easementlaw14_PathShort.calls (a0 : Int) (A1 : Option Addr) (c1 : Nat) (l1 : List (S38)) (a2 : Int) (a3 : Int) (r : Bool) (w : World) (hr1 : Kd.C k38 w A1 l1.length l1) (hc1 : l1.length ≤ c1) (h : easementlaw14_PathShort.f a0 l1 a2 a3 = some r) :
    Calls Try.prog 9 #[.int .i64 a0, .slice A1 l1.length c1, .int .i64 a2, .int .i64 a3] w fun e w' => e = .returned (.bool r) ∧ Below w.heap.size w w' := by
  obtain rfl : true = r := by injection h
  have hh := PathShort_walk a0 a2 a3 A1 c1 (l1.map fun x => (x.f0, x.f1)) w (Rd.ofC (f := arcC) (g := fun x : S38 => (x.f0, x.f1)) z38 (n := 2) rfl (by decide) (fun _ => rfl) (fun _ _ hk => k38_open hk) hr1)
  rw [List.length_map] at hh
  exact hh.mono (fun e w' ⟨he, HS⟩ => ⟨he, HS.kept.below owns_nil⟩)

end Go.Proofs.Ythfpdpjccnnlhaa.GPathShort
