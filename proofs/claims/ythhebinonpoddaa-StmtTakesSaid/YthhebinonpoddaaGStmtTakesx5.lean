/- Written for this claim by gp.py, a program of this session's, over the kit's print. Lean checks it. -/
import Derived.Test.YthhebinonpoddaaGStmtTakesx0
import Derived.Test.YthhebinonpoddaaGStmtTakesx4
namespace Go.Proofs.Ythhebinonpoddaa.GStmtTakes
open Go.RowKit Go.Proofs.YthhebinonpoddaaW.PrintWords Go.Proofs.YthhebinonpoddaaW.PrintLast Go.Proofs.YthhebinonpoddaaW.PrintMore
attribute [local go_sem] max2_int min2_int max_two min_two max_three min_three max_four min_four   -- for this text's walks alone
set_option linter.unusedVariables false
set_option linter.unusedSimpArgs false

/-! ### leb_Take: function 58 -/
def leb_Take.l0 : Nat → ByteArray → Int → Int → Int → Option (Int × Int × Int)
  | 0, _, _, _, _ => none
  | k + 1, x0, x5, x6, x7 => if x7 ≤ x5 then (if 0 ≤ x7 then (if x7 < (x0.size : Int) then (leb_Take.l0 k x0 x5 (Go.bits .or .i64 (wrap64 (x6 * 256)) (wrap64 (bt x0 x7))) (wrap64 (x7 + 1))) else (none)) else (none)) else ((leb_more.f k x6).bind fun t135 => (if t135 = x5 then (some (x6, wrap64 (1 + x5), 0)) else (some (0, 0, 3))))
def leb_Take.f (k : Nat) (a0 : ByteArray) : Option (Int × Int × Int) := if a0.toList = ([] : List UInt8) then (some (0, 0, 4)) else (if 0 < (a0.size : Int) then (if (wrap64 ((wrap64 ((wrap64 (bt a0 0)) - 248)) + 1)) ≤ 0 then (some (wrap64 (bt a0 0), 1, 0)) else (if (wrap64 ((wrap64 ((wrap64 (bt a0 0)) - 248)) + 1)) > 4 then (some (0, 0, 3)) else (if (a0.size : Int) ≤ (wrap64 ((wrap64 ((wrap64 (bt a0 0)) - 248)) + 1)) then (some (0, 0, 4)) else (leb_Take.l0 k a0 (wrap64 ((wrap64 ((wrap64 (bt a0 0)) - 248)) + 1)) 0 1)))) else (none))
theorem leb_Take.mono_l : ∀ k, (∀ y0 y1 y2 y3, LeO (leb_Take.l0 k y0 y1 y2 y3) (leb_Take.l0 (k + 1) y0 y1 y2 y3))
  | 0 => fun _ _ _ _ r h => by simp [leb_Take.l0] at h
  | k + 1 => by
    have ih0 := leb_Take.mono_l k
    · intro y0 y1 y2 y3
      unfold leb_Take.l0
      repeat' first
      | (with_reducible exact ih0 _ _ _ _)
      | (with_reducible exact leb_more.mono _ _)
      | (with_reducible exact LeO.refl _)
      | (with_reducible exact LeO.none _)
      | (with_reducible refine LeO.ite ?_ ?_)
      | (with_reducible refine LeO.bind ?_ (fun _ => ?_))
      | exact ih0 _ _ _ _
      | exact leb_more.mono _ _
      | exact LeO.none _
      | refine LeO.ite ?_ ?_
      | refine LeO.bind ?_ (fun _ => ?_)
theorem leb_Take.mono : ∀ a0 k, LeO (leb_Take.f k a0) (leb_Take.f (k + 1) a0) := by
  intro a0 k
  have ih0 := leb_Take.mono_l k
  unfold leb_Take.f
  repeat' first
      | (with_reducible exact ih0 _ _ _ _)
      | (with_reducible exact leb_more.mono _ _)
      | (with_reducible exact LeO.refl _)
      | (with_reducible exact LeO.none _)
      | (with_reducible refine LeO.ite ?_ ?_)
      | (with_reducible refine LeO.bind ?_ (fun _ => ?_))
      | exact ih0 _ _ _ _
      | exact leb_more.mono _ _
      | exact LeO.none _
      | refine LeO.ite ?_ ?_
      | refine LeO.bind ?_ (fun _ => ?_)
set_option maxHeartbeats 8000000 in
set_option maxRecDepth 100000 in
theorem leb_Take.calls (k : Nat) (a0 : ByteArray) (r1 : Int) (r2 : Int) (r3 : Int) (w : World) (h : leb_Take.f k a0 = some (r1, r2, r3)) :
    Calls Try.prog 58 #[.string a0] w fun e w' => e = .returned (.tuple #[.int .i64 r1, .int .i64 r2, .int .i64 r3]) ∧ Drawn0 w w' := by
  have H : (if a0.toList = ([] : List UInt8) then (some (0, 0, 4)) else (if 0 < (a0.size : Int) then (if (wrap64 ((wrap64 ((wrap64 (bt a0 0)) - 248)) + 1)) ≤ 0 then (some (wrap64 (bt a0 0), 1, 0)) else (if (wrap64 ((wrap64 ((wrap64 (bt a0 0)) - 248)) + 1)) > 4 then (some (0, 0, 3)) else (if (a0.size : Int) ≤ (wrap64 ((wrap64 ((wrap64 (bt a0 0)) - 248)) + 1)) then (some (0, 0, 4)) else (leb_Take.l0 k a0 (wrap64 ((wrap64 ((wrap64 (bt a0 0)) - 248)) + 1)) 0 1)))) else (none))) = some (r1, r2, r3) := h
  clear h
  by_cases c2 : a0.toList = ([] : List UInt8)
  · rw [if_pos c2] at H
    have c2b0 : (a0.toList == ([] : List UInt8)) = true := beq_iff_eq.mpr c2
    have c2b1 : (a0.toList != ([] : List UInt8)) = false := bne_eq_false_iff_eq.mpr c2
    clear c2
    simp only [Option.some.injEq, Prod.mk.injEq] at H
    obtain ⟨rfl, rfl, rfl⟩ := H
    go_enter Try.func58, Try.ntmps58
    go_wp2
    go_ret3
    exact ⟨by first | rfl | (simp; done) | (simp [*]; done), by repeat (first | exact Drawn0.refl _ | apply Drawn0.step)⟩
  · rw [if_neg c2] at H
    have c2b0 : (a0.toList == ([] : List UInt8)) = false := beq_eq_false_iff_ne.mpr c2
    have c2b1 : (a0.toList != ([] : List UInt8)) = true := bne_iff_ne.mpr c2
    by_cases c3 : 0 < (a0.size : Int)
    · rw [if_pos c3] at H
      have c3b0 : decide (0 < (a0.size : Int)) = true := decide_eq_true c3
      have c3b1 : decide (0 < a0.size) = true := decide_eq_true (by omega)
      clear c3
      by_cases c5 : (wrap64 ((wrap64 ((wrap64 (bt a0 0)) - 248)) + 1)) ≤ 0
      · rw [if_pos c5] at H
        have c5b0 : decide ((wrap64 ((wrap64 ((wrap64 (bt a0 0)) - 248)) + 1)) ≤ 0) = true := decide_eq_true c5
        clear c5
        simp only [Option.some.injEq, Prod.mk.injEq] at H
        obtain ⟨rfl, rfl, rfl⟩ := H
        have p4 : 0 ≤ (0 : Int) := (by omega)
        have q4 : 0 < a0.size := (by have : (0 : Int) < (a0.size : Int) := of_decide_eq_true (by first | (with_reducible assumption) | assumption); omega)
        have hx4 : ∀ h : 0 < a0.size, ((a0[0]'h).toNat : Int) = bt a0 0 := bt_at a0 0
        clear p4
        have qi4 : (0 < (a0.size : Int)) = True := eq_true (of_decide_eq_true (by first | (with_reducible assumption) | assumption))
        replace q4 := eq_true q4
        have p6 : 0 ≤ (0 : Int) := (by omega)
        have q6 : 0 < a0.size := (by have : (0 : Int) < (a0.size : Int) := of_decide_eq_true (by first | (with_reducible assumption) | assumption); omega)
        have hx6 : ∀ h : 0 < a0.size, ((a0[0]'h).toNat : Int) = bt a0 0 := bt_at a0 0
        clear p6
        have qi6 : (0 < (a0.size : Int)) = True := eq_true (of_decide_eq_true (by first | (with_reducible assumption) | assumption))
        replace q6 := eq_true q6
        go_enter Try.func58, Try.ntmps58
        go_wp2
        go_ret3
        exact ⟨by first | rfl | (simp; done) | (simp [*]; done), by repeat (first | exact Drawn0.refl _ | apply Drawn0.step)⟩
      · rw [if_neg c5] at H
        have c5b0 : decide ((wrap64 ((wrap64 ((wrap64 (bt a0 0)) - 248)) + 1)) ≤ 0) = false := decide_eq_false c5
        clear c5
        by_cases c7 : (wrap64 ((wrap64 ((wrap64 (bt a0 0)) - 248)) + 1)) > 4
        · rw [if_pos c7] at H
          have c7b0 : decide (4 < (wrap64 ((wrap64 ((wrap64 (bt a0 0)) - 248)) + 1))) = true := decide_eq_true c7
          clear c7
          simp only [Option.some.injEq, Prod.mk.injEq] at H
          obtain ⟨rfl, rfl, rfl⟩ := H
          have p4 : 0 ≤ (0 : Int) := (by omega)
          have q4 : 0 < a0.size := (by have : (0 : Int) < (a0.size : Int) := of_decide_eq_true (by first | (with_reducible assumption) | assumption); omega)
          have hx4 : ∀ h : 0 < a0.size, ((a0[0]'h).toNat : Int) = bt a0 0 := bt_at a0 0
          clear p4
          have qi4 : (0 < (a0.size : Int)) = True := eq_true (of_decide_eq_true (by first | (with_reducible assumption) | assumption))
          replace q4 := eq_true q4
          go_enter Try.func58, Try.ntmps58
          go_wp2
          go_ret3
          exact ⟨by first | rfl | (simp; done) | (simp [*]; done), by repeat (first | exact Drawn0.refl _ | apply Drawn0.step)⟩
        · rw [if_neg c7] at H
          have c7b0 : decide (4 < (wrap64 ((wrap64 ((wrap64 (bt a0 0)) - 248)) + 1))) = false := decide_eq_false c7
          clear c7
          by_cases c8 : (a0.size : Int) ≤ (wrap64 ((wrap64 ((wrap64 (bt a0 0)) - 248)) + 1))
          · rw [if_pos c8] at H
            have c8b0 : decide ((a0.size : Int) ≤ (wrap64 ((wrap64 ((wrap64 (bt a0 0)) - 248)) + 1))) = true := decide_eq_true c8
            clear c8
            simp only [Option.some.injEq, Prod.mk.injEq] at H
            obtain ⟨rfl, rfl, rfl⟩ := H
            have p4 : 0 ≤ (0 : Int) := (by omega)
            have q4 : 0 < a0.size := (by have : (0 : Int) < (a0.size : Int) := of_decide_eq_true (by first | (with_reducible assumption) | assumption); omega)
            have hx4 : ∀ h : 0 < a0.size, ((a0[0]'h).toNat : Int) = bt a0 0 := bt_at a0 0
            clear p4
            have qi4 : (0 < (a0.size : Int)) = True := eq_true (of_decide_eq_true (by first | (with_reducible assumption) | assumption))
            replace q4 := eq_true q4
            go_enter Try.func58, Try.ntmps58
            go_wp2
            go_ret3
            exact ⟨by first | rfl | (simp; done) | (simp [*]; done), by repeat (first | exact Drawn0.refl _ | apply Drawn0.step)⟩
          · rw [if_neg c8] at H
            have c8b0 : decide ((a0.size : Int) ≤ (wrap64 ((wrap64 ((wrap64 (bt a0 0)) - 248)) + 1))) = false := decide_eq_false c8
            clear c8
            have H' := Aside0.mk H
            clear H
            have p4 : 0 ≤ (0 : Int) := (by omega)
            have q4 : 0 < a0.size := (by have : (0 : Int) < (a0.size : Int) := of_decide_eq_true (by first | (with_reducible assumption) | assumption); omega)
            have hx4 : ∀ h : 0 < a0.size, ((a0[0]'h).toNat : Int) = bt a0 0 := bt_at a0 0
            clear p4
            have qi4 : (0 < (a0.size : Int)) = True := eq_true (of_decide_eq_true (by first | (with_reducible assumption) | assumption))
            replace q4 := eq_true q4
            go_enter Try.func58, Try.ntmps58
            go_wp2
            go_loopg [6, 7] k (fun kq v6 v7 w' => ∃ (x6_1 : Int) (x7_1 : Int), v6 = .int .i64 x6_1 ∧ v7 = .int .i64 x7_1 ∧ Aside0 (leb_Take.l0 kq a0 (wrap64 ((wrap64 ((wrap64 (bt a0 0)) - 248)) + 1)) x6_1 x7_1 = some (r1, r2, r3)) ∧ Aside0 (kq ≤ k) ∧ Drawn0 w w')
            case atStart => exact ⟨(0), (1), (by first | rfl | (simp; done) | (simp [*]; done)), (by first | rfl | (simp; done) | (simp [*]; done)), H', ⟨Nat.le_refl _⟩, by repeat (first | exact Drawn0.refl _ | apply Drawn0.step)⟩
            case round =>
              clear H'
              try clear c2
              try clear c2b0
              try clear c2b1
              try clear p2
              try clear c3
              try clear c3b0
              try clear c3b1
              try clear p4
              try clear q4
              try clear hx4
              try clear qi4
              try clear c5
              try clear c5b0
              try clear p6
              try clear q6
              try clear hx6
              try clear qi6
              try clear c7
              try clear c7b0
              try clear c8
              try clear c8b0
              try clear p4
              try clear p6
              try clear q4
              try clear q6
              obtain ⟨x6_1, x7_1, rfl, rfl, HA, HK1, ⟨m1, rfl⟩⟩ := hrel
              cases gk with
              | zero => exact absurd HA.out (by simp [leb_Take.l0])
              | succ k1 =>
                have H := HA.out
                clear HA
                simp only [leb_Take.l0] at H
                by_cases c9 : x7_1 ≤ (wrap64 ((wrap64 ((wrap64 (bt a0 0)) - 248)) + 1))
                · rw [if_pos c9] at H
                  have c9b0 : decide (x7_1 ≤ (wrap64 ((wrap64 ((wrap64 (bt a0 0)) - 248)) + 1))) = true := decide_eq_true c9
                  clear c9
                  by_cases c10 : 0 ≤ x7_1
                  · rw [if_pos c10] at H
                    have c10b0 : decide (0 ≤ x7_1) = true := decide_eq_true c10
                    clear c10
                    by_cases c11 : x7_1 < (a0.size : Int)
                    · rw [if_pos c11] at H
                      have c11b0 : decide (x7_1 < (a0.size : Int)) = true := decide_eq_true c11
                      clear c11
                      have H' := Aside0.mk H
                      clear H
                      have p12 : 0 ≤ (x7_1 : Int) := of_decide_eq_true (by first | (with_reducible assumption) | assumption)
                      have q12 : x7_1 < (a0.size : Int) := of_decide_eq_true (by first | (with_reducible assumption) | assumption)
                      have hx12 := bt_at a0 x7_1
                      replace p12 := eq_true p12
                      replace q12 := eq_true q12
                      go_wp2
                      go_roundg k1
                      case measure => have := HK1.out; omega
                      case rel => exact ⟨(Go.bits .or .i64 (wrap64 (x6_1 * 256)) (wrap64 (bt a0 x7_1))), (wrap64 (x7_1 + 1)), (by first | rfl | (simp; done) | (simp [*]; done)), (by first | rfl | (simp; done) | (simp [*]; done)), H', ⟨by have := HK1.out; omega⟩, by repeat (first | exact Drawn0.refl _ | apply Drawn0.step)⟩
                    · rw [if_neg c11] at H
                      exact absurd H (by simp)
                  · rw [if_neg c10] at H
                    exact absurd H (by simp)
                · rw [if_neg c9] at H
                  have c9b0 : decide (x7_1 ≤ (wrap64 ((wrap64 ((wrap64 (bt a0 0)) - 248)) + 1))) = false := decide_eq_false c9
                  clear c9
                  replace H := Option.bind_eq_some_iff.mp H
                  obtain ⟨t135, A130, H⟩ := H
                  replace H : (if t135 = (wrap64 ((wrap64 ((wrap64 (bt a0 0)) - 248)) + 1)) then (some (x6_1, wrap64 (1 + (wrap64 ((wrap64 ((wrap64 (bt a0 0)) - 248)) + 1))), 0)) else (some (0, 0, 3))) = some (r1, r2, r3) := H
                  have A13 := Aside0.mk A130
                  clear A130
                  by_cases c14 : t135 = (wrap64 ((wrap64 ((wrap64 (bt a0 0)) - 248)) + 1))
                  · rw [if_pos c14] at H
                    have c14b0 : (t135 == (wrap64 ((wrap64 ((wrap64 (bt a0 0)) - 248)) + 1))) = true := beq_iff_eq.mpr c14
                    have c14b1 : (t135 != (wrap64 ((wrap64 ((wrap64 (bt a0 0)) - 248)) + 1))) = false := bne_eq_false_iff_eq.mpr c14
                    clear c14
                    simp only [Option.some.injEq, Prod.mk.injEq] at H
                    obtain ⟨rfl, rfl, rfl⟩ := H
                    go_wp2_with (first | ((with_reducible refine gate_callee (f := 99) rfl ?_); refine goesL_ (some 42) rfl rfl Try.func99 (by kernel_rfl) rfl #[.int .i64 x6_1] rfl (by (try simp only [List.map_toArray, List.map_cons, List.map_nil]); first | done | rfl | (simp only [List.length_drop, List.length_take]; rfl)) ?_; (with_reducible refine (leb_more.calls k1 x6_1 t135 _ A13.out).mono ?_); rintro e w' ⟨rfl, ⟨nd, rfl⟩⟩; refine ⟨_, rfl, ?_⟩))
                    go_ret3
                    exact ⟨by first | rfl | (simp; done) | (simp [*]; done), by repeat (first | exact Drawn0.refl _ | apply Drawn0.step)⟩
                  · rw [if_neg c14] at H
                    have c14b0 : (t135 == (wrap64 ((wrap64 ((wrap64 (bt a0 0)) - 248)) + 1))) = false := beq_eq_false_iff_ne.mpr c14
                    have c14b1 : (t135 != (wrap64 ((wrap64 ((wrap64 (bt a0 0)) - 248)) + 1))) = true := bne_iff_ne.mpr c14
                    simp only [Option.some.injEq, Prod.mk.injEq] at H
                    obtain ⟨rfl, rfl, rfl⟩ := H
                    go_wp2_with (first | ((with_reducible refine gate_callee (f := 99) rfl ?_); refine goesL_ (some 42) rfl rfl Try.func99 (by kernel_rfl) rfl #[.int .i64 x6_1] rfl (by (try simp only [List.map_toArray, List.map_cons, List.map_nil]); first | done | rfl | (simp only [List.length_drop, List.length_take]; rfl)) ?_; (with_reducible refine (leb_more.calls k1 x6_1 t135 _ A13.out).mono ?_); rintro e w' ⟨rfl, ⟨nd, rfl⟩⟩; refine ⟨_, rfl, ?_⟩))
                    go_ret3
                    exact ⟨by first | rfl | (simp; done) | (simp [*]; done), by repeat (first | exact Drawn0.refl _ | apply Drawn0.step)⟩
    · rw [if_neg c3] at H
      exact absurd H (by simp)

end Go.Proofs.Ythhebinonpoddaa.GStmtTakes
