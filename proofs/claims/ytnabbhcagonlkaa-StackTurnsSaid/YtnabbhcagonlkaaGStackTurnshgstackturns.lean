/- Written for this claim by gp.py, a program of this session's, over the kit's print. Lean checks it. -/
import Derived.Test.YtnabbhcagonlkaaGStackTurnsx0
import Derived.Test.YtnabbhcagonlkaaGStackTurnshhp2
import Derived.Test.YtnabbhcagonlkaaGStackTurnshofc
import Derived.Test.YtnabbhcagonlkaaGStackTurnshhp4
import Derived.Test.YtnabbhcagonlkaaGStackTurnshglStackTurnsa
namespace Go.Proofs.Ytnabbhcagonlkaa.GStackTurns
open Go.RowKit Go.Proofs.YtnabbhcagonlkaaW.PrintWords Go.Proofs.YtnabbhcagonlkaaW.PrintLast Go.Proofs.YtnabbhcagonlkaaW.PrintMore
attribute [local go_sem] max2_int min2_int max_two min_two max_three min_three max_four min_four   -- for this text's walks alone
set_option linter.unusedVariables false
set_option linter.unusedSimpArgs false

def easementlaw07_StackTurns.f (l0 : List ByteArray) : Option Bool := some true
theorem easementlaw07_StackTurns.calls (A0 : Option Addr) (c0 : Nat) (l0 : List ByteArray) (r : Bool) (w : World) (hr0 : Kd.C Kd.string w A0 l0.length l0) (hc0 : l0.length ≤ c0) (h : easementlaw07_StackTurns.f l0 = some r) :
    Calls Try.prog 13 #[.slice A0 l0.length c0] w fun e w' => e = .returned (.bool r) ∧ Below w.heap.size w w' := by
  obtain rfl : true = r := by injection h
  have hd := Rd.ofC (f := fun s : ByteArray => [Value.string s]) (g := fun s : ByteArray => s) ByteArray.empty (n := 1) rfl (by decide) (fun _ => rfl) (fun _ _ hk => hk) hr0
  have he : cf (fun s : ByteArray => [Value.string s]) (l0.map fun s => s) = cz l0 := by rw [List.map_id']; exact cf_cz l0
  rw [he] at hd
  exact (StackTurns_walk A0 c0 l0 w hd hc0).mono (fun e w' ⟨he, HS⟩ => ⟨he, HS.kept.below owns_nil⟩)

end Go.Proofs.Ytnabbhcagonlkaa.GStackTurns
