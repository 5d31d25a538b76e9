/- Written for this claim by gp.py, a program of this session's, over the kit's print. Lean checks it. -/
import Derived.Test.YtnabbhcagonlkaaGTickCountsx0
import Derived.Test.YtnabbhcagonlkaaGTickCountsx1
import Derived.Test.YtnabbhcagonlkaaGTickCountsx2
import Derived.Test.YtnabbhcagonlkaaGTickCountshcounter
import Derived.StillTailTactics
namespace Go.Proofs.Ytnabbhcagonlkaa.GTickCounts
open Go.RowKit Go.Proofs.YtnabbhcagonlkaaW.PrintWords Go.Proofs.YtnabbhcagonlkaaW.PrintLast Go.Proofs.YtnabbhcagonlkaaW.PrintMore
attribute [local go_sem] max2_int min2_int max_two min_two max_three min_three max_four min_four   -- for this text's walks alone
set_option linter.unusedVariables false
set_option linter.unusedSimpArgs false

--import Derived.StillTailTactics
def addn (a b : Int) : Int := if a > wrap64 (9223372036854775807 - b) then 9223372036854775807 else wrap64 (a + b)
theorem plus_addn (a b : Int) : tick_plus.f a b = some (addn a b) := by
  unfold tick_plus.f addn
  split <;> rfl
def tsum (s0_0 s0_1 s0_2 s0_3 s0_4 s0_5 s0_6 : Int) : Nat → Int
  | 0 => 0
  | j + 1 => addn (tsum s0_0 s0_1 s0_2 s0_3 s0_4 s0_5 s0_6 j) (atp s0_0 s0_1 s0_2 s0_3 s0_4 s0_5 s0_6 (j : Int))
def tick_Counter_Total.f (s0_0 s0_1 s0_2 s0_3 s0_4 s0_5 s0_6 : Int) : Option (Int × Int × Int × Int × Int × Int × Int × Int) := some (tsum s0_0 s0_1 s0_2 s0_3 s0_4 s0_5 s0_6 7, s0_0, s0_1, s0_2, s0_3, s0_4, s0_5, s0_6)
set_option maxHeartbeats 4000000 in
set_option maxRecDepth 100000 in
theorem tick_Counter_Total.calls (g : Nat) (s0_0 : Int) (s0_1 : Int) (s0_2 : Int) (s0_3 : Int) (s0_4 : Int) (s0_5 : Int) (s0_6 : Int) (r1 : Int) (r2 : Int) (r3 : Int) (r4 : Int) (r5 : Int) (r6 : Int) (r7 : Int) (r8 : Int) (w0 w : World) (hI : IsS73 w0 w g s0_0 s0_1 s0_2 s0_3 s0_4 s0_5 s0_6) (hB : Below w0.heap.size w0 w) (h : tick_Counter_Total.f s0_0 s0_1 s0_2 s0_3 s0_4 s0_5 s0_6 = some (r1, r2, r3, r4, r5, r6, r7, r8)) :
    Calls Try.prog 46 #[.pointer (some ⟨g, 0, none⟩)] w fun e w' => e = .returned (.int .i64 r1) ∧ IsS73 w0 w' g r2 r3 r4 r5 r6 r7 r8 ∧ Below w0.heap.size w0 w' ∧ KeepBut w w' g none := by
  unfold tick_Counter_Total.f at h
  simp only [Option.some.injEq, Prod.mk.injEq] at h
  obtain ⟨rfl, rfl, rfl, rfl, rfl, rfl, rfl, rfl⟩ := h
  have hu := Try.underlying73
  have HI := Aside0.mk hI
  have HB := Aside0.mk hB
  have HK := Aside0.mk (KeepBut.refl w g none)
  clear hI hB
  go_enter Try.func46, Try.ntmps46
  go_wp2
  go_loopg [3, 5] 7 (fun kq v3 v5 w' => ∃ (j m : Int), v3 = .int .i64 m ∧ v5 = .int .i64 j ∧ Aside0 (0 ≤ j ∧ j + kq = 7 ∧ m = tsum s0_0 s0_1 s0_2 s0_3 s0_4 s0_5 s0_6 j.toNat) ∧ Aside0 (IsS73 w0 w' g s0_0 s0_1 s0_2 s0_3 s0_4 s0_5 s0_6) ∧ Aside0 (Below w0.heap.size w0 w') ∧ Aside0 (KeepBut w w' g none))
  case atStart => exact ⟨0, 0, rfl, rfl, ⟨⟨by decide, rfl, rfl⟩⟩, HI, HB, HK⟩
  case round =>
    clear HI HB HK
    obtain ⟨j, m, rfl, rfl, HJ, HI, HB, HK⟩ := hrel
    by_cases c1 : j < 7
    · obtain ⟨k1, rfl⟩ : ∃ k1, gk = k1 + 1 := ⟨gk - 1, by have := HJ.out; omega⟩
      have c1b : decide (j < 7) = true := decide_eq_true c1
      have hj : wrap64 (j + 1) = j + 1 := by have := HJ.out; unfold wrap64; omega
      have E1 := Aside0.mk (fun (W : World) (hI : IsS73 w0 W g s0_0 s0_1 s0_2 s0_3 s0_4 s0_5 s0_6) (hB : Below w0.heap.size w0 W) => tick_Counter_Of.calls g s0_0 s0_1 s0_2 s0_3 s0_4 s0_5 s0_6 j (atp s0_0 s0_1 s0_2 s0_3 s0_4 s0_5 s0_6 j) s0_0 s0_1 s0_2 s0_3 s0_4 s0_5 s0_6 w0 W hI hB rfl)
      have E2 := Aside0.mk (fun (W : World) => tick_plus.calls m (atp s0_0 s0_1 s0_2 s0_3 s0_4 s0_5 s0_6 j) (addn m (atp s0_0 s0_1 s0_2 s0_3 s0_4 s0_5 s0_6 j)) W (plus_addn _ _))
      clear c1
      go_wp2_with (first | (go_at_call 49; (with_reducible refine (E1.out _ HI.out HB.out).mono ?_); rintro e W1 ⟨rfl, hI, hB, hK⟩; have HI1 := Aside0.mk hI; have HB1 := Aside0.mk hB; have HK1 := Aside0.mk (HK.out.trans hK (.inl rfl)); clear hI hB hK HI HB HK) | (go_at_call 75; (with_reducible refine (E2.out _).mono ?_); rintro e w2 ⟨rfl, ⟨nd, rfl⟩⟩))
      go_roundg k1
      case measure => omega
      case rel => exact ⟨j + 1, _, rfl, by first | rfl | rw [hj], ⟨⟨by have := HJ.out; omega, by have := HJ.out; omega, by rw [HJ.out.2.2, show (j + 1).toNat = j.toNat + 1 from by have := HJ.out; omega, tsum, show ((j.toNat : Nat) : Int) = j from by have := HJ.out; omega]⟩⟩, ⟨IsS73.drewN HI1.out _⟩, ⟨pw_below_drewN HB1.out _⟩, ⟨keep_drewN HK1.out _⟩⟩
    · have c1b : decide (j < 7) = false := decide_eq_false c1
      have hj7 := Aside0.mk (show j.toNat = 7 from by have := HJ.out; omega)
      clear c1
      go_wp2
      go_ret
      exact ⟨by rw [HJ.out.2.2, hj7.out]; rfl, HI.out, HB.out, HK.out⟩
set_option maxHeartbeats 4000000 in
set_option maxRecDepth 100000 in
theorem tick_Counter_Add.nil (a1 a2 : Int) (w : World) : Calls Try.prog 45 #[.pointer none, .int .i64 a1, .int .i64 a2] w fun e w' => e = .returned (.tuple #[]) ∧ Drawn0 w w' := by
  go_enter Try.func45, Try.ntmps45
  go_wp2
  repeat (go_quiet (fail); try go_wp2)
  first | go_end0 | ((try simp only [Exit.inBlock, Exit.then]); refine bodyPost_ret (results_none rfl _ _ _) rfl ?_)
  exact ⟨rfl, by repeat (first | exact Drawn0.refl _ | apply Drawn0.step)⟩
set_option maxHeartbeats 4000000 in
set_option maxRecDepth 100000 in
theorem tick_Counter_Of.nil (a1 : Int) (w : World) : Calls Try.prog 49 #[.pointer none, .int .i64 a1] w fun e w' => e = .returned (.int .i64 0) ∧ Drawn0 w w' := by
  go_enter Try.func49, Try.ntmps49
  go_wp2
  repeat (go_quiet (fail); try go_wp2)
  go_ret
  exact ⟨rfl, by repeat (first | exact Drawn0.refl _ | apply Drawn0.step)⟩
set_option maxHeartbeats 4000000 in
set_option maxRecDepth 100000 in
theorem tick_Counter_Total.nil (w : World) : Calls Try.prog 46 #[.pointer none] w fun e w' => e = .returned (.int .i64 0) ∧ Drawn0 w w' := by
  have HD := Aside0.mk (Drawn0.refl w)
  have E2 := Aside0.mk (fun (W : World) => tick_plus.calls 0 0 0 W (by decide +kernel))
  go_enter Try.func46, Try.ntmps46
  go_wp2
  go_loopg [3, 5] 7 (fun kq v3 v5 w' => ∃ (j : Int), v3 = .int .i64 0 ∧ v5 = .int .i64 j ∧ Aside0 (0 ≤ j ∧ j + kq = 7) ∧ Aside0 (Drawn0 w w'))
  case atStart => exact ⟨0, rfl, rfl, ⟨⟨by decide, rfl⟩⟩, HD⟩
  case round =>
    clear HD
    obtain ⟨j, rfl, rfl, HJ, HD⟩ := hrel
    by_cases c1 : j < 7
    · obtain ⟨k1, rfl⟩ : ∃ k1, gk = k1 + 1 := ⟨gk - 1, by have := HJ.out; omega⟩
      have c1b : decide (j < 7) = true := decide_eq_true c1
      have hj : wrap64 (j + 1) = j + 1 := by have := HJ.out; unfold wrap64; omega
      clear c1
      go_wp2_with (first | (go_at_call 49; (with_reducible refine (tick_Counter_Of.nil _ _).mono ?_); rintro e w1 ⟨rfl, ⟨nd1, rfl⟩⟩) | (go_at_call 75; (with_reducible refine (E2.out _).mono ?_); rintro e w2 ⟨rfl, ⟨nd, rfl⟩⟩))
      go_roundg k1
      case measure => omega
      case rel => exact ⟨j + 1, rfl, by first | rfl | rw [hj], ⟨by have := HJ.out; omega⟩, ⟨by repeat (first | exact HD.out | apply Drawn0.step)⟩⟩
    · have c1b : decide (j < 7) = false := decide_eq_false c1
      go_wp2
      go_ret
      exact ⟨rfl, HD.out⟩

end Go.Proofs.Ytnabbhcagonlkaa.GTickCounts
