/- Written for this claim by gp.py, a program of this session's, over the kit's print. Lean checks it. -/
import Derived.Test.YthfpdpjccnnlhaaGPathWalksx0
import Derived.Test.YthfpdpjccnnlhaaGPathWalkshspPathWalksa
import Derived.Test.YthfpdpjccnnlhaaGPathWalkshspPathWalksd
import Derived.Test.YthfpdpjccnnlhaaGPathWalkshofc
namespace Go.Proofs.Ythfpdpjccnnlhaa.GPathWalks
open Go.RowKit Go.Proofs.YthfpdpjccnnlhaaW.PrintWords Go.Proofs.YthfpdpjccnnlhaaW.PrintLast Go.Proofs.YthfpdpjccnnlhaaW.PrintMore
attribute [local go_sem] max2_int min2_int max_two min_two max_three min_three max_four min_four   -- for this text's walks alone
set_option linter.unusedVariables false
set_option linter.unusedSimpArgs false

theorem cf_ci (xs : List Int) : cf (fun n : Int => [Value.int .i64 n]) xs = ci .i64 xs := by
  unfold cf ci
  induction xs with
  | nil => rfl
  | cons x xs ih => simp_all
def easementlaw14_PathWalks.f (a0 : Int) (l1 : List S38) (a2 : Int) (l3 l4 : List Int) : Option Bool := some true
theorem easementlaw14_PathWalks.calls (a0 : Int) (A1 : Option Addr) (c1 : Nat) (l1 : List (S38)) (a2 : Int) (A3 : Option Addr) (c3 : Nat) (l3 : List Int) (A4 : Option Addr) (c4 : Nat) (l4 : List Int) (r : Bool) (w : World) (hr1 : Kd.C k38 w A1 l1.length l1) (hc1 : l1.length ≤ c1) (hr3 : Kd.C (Kd.int .i64) w A3 l3.length l3) (hc3 : l3.length ≤ c3) (hr4 : Kd.C (Kd.int .i64) w A4 l4.length l4) (hc4 : l4.length ≤ c4) (h : easementlaw14_PathWalks.f a0 l1 a2 l3 l4 = some r) :
    Calls Try.prog 10 #[.int .i64 a0, .slice A1 l1.length c1, .int .i64 a2, .slice A3 l3.length c3, .slice A4 l4.length c4] w fun e w' => e = .returned (.bool r) ∧ Below w.heap.size w w' := by
  obtain rfl : true = r := by injection h
  have hd3 := Rd.ofC (f := fun n : Int => [Value.int .i64 n]) (g := fun n : Int => n) 0 (n := 1) rfl (by decide) (fun _ => rfl) (fun _ _ hk => hk) hr3
  have hd4 := Rd.ofC (f := fun n : Int => [Value.int .i64 n]) (g := fun n : Int => n) 0 (n := 1) rfl (by decide) (fun _ => rfl) (fun _ _ hk => hk) hr4
  rw [List.map_id', cf_ci] at hd3 hd4
  have hh := PathWalks_walk a0 a2 A3 A4 c3 c4 l3 l4 A1 c1 (l1.map fun x => (x.f0, x.f1)) w (Rd.ofC (f := arcC) (g := fun x : S38 => (x.f0, x.f1)) z38 (n := 2) rfl (by decide) (fun _ => rfl) (fun _ _ hk => k38_open hk) hr1) hd3 hd4
  rw [List.length_map] at hh
  exact hh.mono (fun e w' ⟨he, HS⟩ => ⟨he, HS.kept.below owns_nil⟩)

end Go.Proofs.Ythfpdpjccnnlhaa.GPathWalks
