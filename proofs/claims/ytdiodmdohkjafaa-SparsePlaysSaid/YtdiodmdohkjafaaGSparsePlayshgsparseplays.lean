/- Written for this claim by gp.py, a program of this session's, over the kit's print. Lean checks it. -/
import Derived.Test.YtdiodmdohkjafaaGSparsePlaysx0
import Derived.Test.YtdiodmdohkjafaaGSparsePlayshspSparsePlaysa
import Derived.Test.YtdiodmdohkjafaaGSparsePlayshspSparsePlaysd
import Derived.Test.YtdiodmdohkjafaaGSparsePlayshofc
import Derived.Test.YtdiodmdohkjafaaGSparsePlayshcfci
namespace Go.Proofs.Ytdiodmdohkjafaa.GSparsePlays
open Go.RowKit Go.Proofs.YtdiodmdohkjafaaW.PrintWords Go.Proofs.YtdiodmdohkjafaaW.PrintLast Go.Proofs.YtdiodmdohkjafaaW.PrintMore
attribute [local go_sem] max2_int min2_int max_two min_two max_three min_three max_four min_four   -- for this text's walks alone
set_option linter.unusedVariables false
set_option linter.unusedSimpArgs false

def easementlaw04_SparsePlays.f (l0 l1 : List Int) (l2 : List S49) (a3 : Int) : Option Bool := some true
theorem easementlaw04_SparsePlays.calls (A0 : Option Addr) (c0 : Nat) (l0 : List Int) (A1 : Option Addr) (c1 : Nat) (l1 : List Int) (A2 : Option Addr) (c2 : Nat) (l2 : List (S49)) (a3 : Int) (r : Bool) (w : World) (hr0 : Kd.C (Kd.int .i64) w A0 l0.length l0) (hc0 : l0.length ≤ c0) (hr1 : Kd.C (Kd.int .i64) w A1 l1.length l1) (hc1 : l1.length ≤ c1) (hr2 : Kd.C k49 w A2 l2.length l2) (hc2 : l2.length ≤ c2) (h : easementlaw04_SparsePlays.f l0 l1 l2 a3 = some r) :
    Calls Try.prog 5 #[.slice A0 l0.length c0, .slice A1 l1.length c1, .slice A2 l2.length c2, .int .i64 a3] w fun e w' => e = .returned (.bool r) ∧ Below w.heap.size w w' := by
  obtain rfl : true = r := by injection h
  have hd0 := Rd.ofC (f := fun n : Int => [Value.int .i64 n]) (g := fun n : Int => n) 0 (n := 1) rfl (by decide) (fun _ => rfl) (fun _ _ hk => hk) hr0
  have hd1 := Rd.ofC (f := fun n : Int => [Value.int .i64 n]) (g := fun n : Int => n) 0 (n := 1) rfl (by decide) (fun _ => rfl) (fun _ _ hk => hk) hr1
  rw [List.map_id', cf_ci] at hd0 hd1
  have hh := lSparsePlays l0 l1 (l2.map fun x => (x.f0, x.f1)) a3 A0 A1 A2 c0 c1 c2 w hd0 hd1 (Rd.ofC (f := actD) (g := fun x : S49 => (x.f0, x.f1)) z49 (n := 2) rfl (by decide) (fun _ => rfl) (fun _ _ hk => k49_open hk) hr2)
  rw [List.length_map] at hh
  exact hh.mono (fun e w' ⟨he, HS⟩ => ⟨he, HS.kept.below owns_nil⟩)

end Go.Proofs.Ytdiodmdohkjafaa.GSparsePlays
