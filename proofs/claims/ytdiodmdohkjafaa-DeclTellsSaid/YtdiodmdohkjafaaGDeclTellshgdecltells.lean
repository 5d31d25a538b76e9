/- Written for this claim by gp.py, a program of this session's, over the kit's print. Lean checks it. -/
import Derived.Test.YtdiodmdohkjafaaGDeclTellsx0
import Derived.Test.YtdiodmdohkjafaaGDeclTellshspDeclTellsa
import Derived.Test.YtdiodmdohkjafaaGDeclTellshspDeclTellse
import Derived.Test.YtdiodmdohkjafaaGDeclTellshofc
namespace Go.Proofs.Ytdiodmdohkjafaa.GDeclTells
open Go.RowKit Go.Proofs.YtdiodmdohkjafaaW.PrintWords Go.Proofs.YtdiodmdohkjafaaW.PrintLast Go.Proofs.YtdiodmdohkjafaaW.PrintMore
attribute [local go_sem] max2_int min2_int max_two min_two max_three min_three max_four min_four   -- for this text's walks alone
set_option linter.unusedVariables false
set_option linter.unusedSimpArgs false

def easementlaw31_DeclTells.f (a0 : Int) (l1 l2 : List S79) (a3 a4 : Int) : Option Bool := some true
theorem easementlaw31_DeclTells.calls (a0 : Int) (A1 : Option Addr) (c1 : Nat) (l1 : List (S79)) (A2 : Option Addr) (c2 : Nat) (l2 : List (S79)) (a3 : Int) (a4 : Int) (r : Bool) (w : World) (hr1 : Kd.C k79 w A1 l1.length l1) (hc1 : l1.length ≤ c1) (hr2 : Kd.C k79 w A2 l2.length l2) (hc2 : l2.length ≤ c2) (h : easementlaw31_DeclTells.f a0 l1 l2 a3 a4 = some r) :
    Calls Try.prog 7 #[.int .i64 a0, .slice A1 l1.length c1, .slice A2 l2.length c2, .int .i64 a3, .int .i64 a4] w fun e w' => e = .returned (.bool r) ∧ Below w.heap.size w w' := by
  obtain rfl : true = r := by injection h
  have hh := lDeclTells a0 a3 a4 (l1.map fun x => (x.f0, x.f1)) (l2.map fun x => (x.f0, x.f1)) A1 A2 c1 c2 w (Rd.ofC (f := prC) (g := fun x : S79 => (x.f0, x.f1)) z79 (n := 2) rfl (by decide) (fun _ => rfl) (fun _ _ hk => k79_open hk) hr1) (Rd.ofC (f := prC) (g := fun x : S79 => (x.f0, x.f1)) z79 (n := 2) rfl (by decide) (fun _ => rfl) (fun _ _ hk => k79_open hk) hr2)
  rw [List.length_map, List.length_map] at hh
  exact hh.mono (fun e w' ⟨he, HS⟩ => ⟨he, HS.kept.below owns_nil⟩)

end Go.Proofs.Ytdiodmdohkjafaa.GDeclTells
