/- Written for this claim by gp.py, a program of this session's, over the kit's print. Lean checks it. -/
import Derived.Test.YtnabbhcagonlkaaGStackPlaysx0
import Derived.Test.YtnabbhcagonlkaaGStackPlayshhp2
import Derived.Test.YtnabbhcagonlkaaGStackPlayshofc
import Derived.Test.YtnabbhcagonlkaaGStackPlayshw3a
import Derived.Test.YtnabbhcagonlkaaGStackPlayshglStackPlaysa
namespace Go.Proofs.Ytnabbhcagonlkaa.GStackPlays
open Go.RowKit Go.Proofs.YtnabbhcagonlkaaW.PrintWords Go.Proofs.YtnabbhcagonlkaaW.PrintLast Go.Proofs.YtnabbhcagonlkaaW.PrintMore
attribute [local go_sem] max2_int min2_int max_two min_two max_three min_three max_four min_four   -- for this text's walks alone
set_option linter.unusedVariables false
set_option linter.unusedSimpArgs false

def easementlaw07_StackPlays.f (l0 : List S59) : Option Bool := if l0.all (fun x => decide (-9223372036854775808 ≤ x.f1 ∧ x.f1 ≤ 9223372036854775807)) then some true else none
theorem easementlaw07_StackPlays.calls (A0 : Option Addr) (c0 : Nat) (l0 : List (S59)) (r : Bool) (w : World) (hr0 : Kd.C k59 w A0 l0.length l0) (hc0 : l0.length ≤ c0) (h : easementlaw07_StackPlays.f l0 = some r) :
    Calls Try.prog 12 #[.slice A0 l0.length c0] w fun e w' => e = .returned (.bool r) ∧ Below w.heap.size w w' := by
  have hall : l0.all (fun x => decide (-9223372036854775808 ≤ x.f1 ∧ x.f1 ≤ 9223372036854775807)) = true := by
    unfold easementlaw07_StackPlays.f at h
    split at h
    · assumption
    · cases h
  have hr : true = r := by
    unfold easementlaw07_StackPlays.f at h
    rw [if_pos hall] at h
    injection h
  subst hr
  have hh := StackPlays_walk A0 c0 (l0.map fun x => (x.f0, x.f1)) w (Rd.ofC (f := actC) (g := fun x : S59 => (x.f0, x.f1)) z59 (n := 2) rfl (by decide) (fun _ => rfl) (fun _ _ hk => k59_open hk) hr0) (by rw [List.length_map]; exact hc0) (fun a ha => by
    obtain ⟨x, hx, rfl⟩ := List.mem_map.1 ha
    exact of_decide_eq_true (List.all_eq_true.1 hall x hx))
  rw [List.length_map] at hh
  exact hh.mono (fun e w' ⟨he, HS⟩ => ⟨he, HS.kept.below owns_nil⟩)

end Go.Proofs.Ytnabbhcagonlkaa.GStackPlays
