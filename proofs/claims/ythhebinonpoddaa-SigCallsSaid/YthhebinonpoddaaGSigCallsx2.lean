/- Written for this claim by gp.py, a program of this session's, over the kit's print. Lean checks it. -/
import Derived.Test.YthhebinonpoddaaGSigCallsx0
namespace Go.Proofs.Ythhebinonpoddaa.GSigCalls
open Go.RowKit Go.Proofs.YthhebinonpoddaaW.PrintWords Go.Proofs.YthhebinonpoddaaW.PrintLast Go.Proofs.YthhebinonpoddaaW.PrintMore
attribute [local go_sem] max2_int min2_int max_two min_two max_three min_three max_four min_four   -- for this text's walks alone
set_option linter.unusedVariables false
set_option linter.unusedSimpArgs false

/-! ### leb_more: function 99 -/
def leb_more.l0 : Nat → Int → Int → Int → Option (Int)
 | 0, _, _, _ => none
 | k + 1, x0, x3, x4 => if x0 ≥ 248 then (if x4 > 0 then (leb_more.l0 k x0 (wrap64 (x3 + 1)) (x4 / 256)) else (some x3)) else (some x3)
def leb_more.f (k : Nat) (a0 : Int) : Option (Int) := leb_more.l0 k a0 0 a0
theorem leb_more.mono_l : ∀ k, (∀ y0 y1 y2, LeO (leb_more.l0 k y0 y1 y2) (leb_more.l0 (k + 1) y0 y1 y2))
 | 0 => fun _ _ _ r h => by simp [leb_more.l0] at h
 | k + 1 => by
  have ih0 := leb_more.mono_l k
  ·intro y0 y1 y2
   unfold leb_more.l0
   repeat' first
   | (with_reducible exact ih0 _ _ _)
   | (with_reducible exact LeO.refl _)
   | (with_reducible exact LeO.none _)
   | (with_reducible refine LeO.ite ?_ ?_)
   | (with_reducible refine LeO.bind ?_ (fun _ => ?_))
   | exact ih0 _ _ _
   | exact LeO.none _
   | refine LeO.ite ?_ ?_
   | refine LeO.bind ?_ (fun _ => ?_)
theorem leb_more.mono : ∀ a0 k, LeO (leb_more.f k a0) (leb_more.f (k + 1) a0) := by
 intro a0 k
 have ih0 := leb_more.mono_l k
 unfold leb_more.f
 repeat' first
   | (with_reducible exact ih0 _ _ _)
   | (with_reducible exact LeO.refl _)
   | (with_reducible exact LeO.none _)
   | (with_reducible refine LeO.ite ?_ ?_)
   | (with_reducible refine LeO.bind ?_ (fun _ => ?_))
   | exact ih0 _ _ _
   | exact LeO.none _
   | refine LeO.ite ?_ ?_
   | refine LeO.bind ?_ (fun _ => ?_)
set_option maxHeartbeats 8000000 in
set_option maxRecDepth 100000 in
theorem leb_more.calls (k : Nat) (a0 : Int) (r : Int) (w : World) (h : leb_more.f k a0 = some r) :
  Calls Try.prog 99 #[.int .i64 a0] w fun e w' => e = .returned (.int .i64 r) ∧ Drawn0 w w' := by
 have H : (leb_more.l0 k a0 0 a0) = some r := h
 clear h
 have H' := Aside0.mk H
 clear H
 go_enter Try.func99, Try.ntmps99
 go_wp2
 go_loopg [3, 4] k (fun kq v3 v4 w' => ∃ (x3_1 : Int) (x4_1 : Int), v3 = .int .i64 x3_1 ∧ v4 = .int .i64 x4_1 ∧ Aside0 (leb_more.l0 kq a0 x3_1 x4_1 = some r) ∧ Aside0 (kq ≤ k) ∧ Drawn0 w w')
 case atStart => exact ⟨(0), (a0), (by first | rfl | (simp; done) | (simp [*]; done)), (by first | rfl | (simp; done) | (simp [*]; done)), H', ⟨Nat.le_refl _⟩, by repeat (first | exact Drawn0.refl _ | apply Drawn0.step)⟩
 case round =>
  clear H'
  obtain ⟨x3_1, x4_1, rfl, rfl, HA, HK1, ⟨m1, rfl⟩⟩ := hrel
  cases gk with
  | zero => exact absurd HA.out (by simp [leb_more.l0])
  | succ k1 =>
   have H := HA.out
   clear HA
   simp only [leb_more.l0] at H
   by_cases c2 : a0 ≥ 248
   ·rw [if_pos c2] at H
    have c2b0 : decide (248 ≤ a0) = true := decide_eq_true c2
    clear c2
    by_cases c3 : x4_1 > 0
    ·rw [if_pos c3] at H
     have c3b0 : decide (0 < x4_1) = true := decide_eq_true c3
     clear c3
     have H' := Aside0.mk H
     clear H
     go_wp2
     go_roundg k1
     case measure => have := HK1.out; omega
     case rel => exact ⟨(wrap64 (x3_1 + 1)), (x4_1 / 256), (by first | rfl | (simp; done) | (simp [*]; done)), (by first | rfl | (simp; done) | (simp [*]; done)), H', ⟨by have := HK1.out; omega⟩, by repeat (first | exact Drawn0.refl _ | apply Drawn0.step)⟩
    ·rw [if_neg c3] at H
     have c3b0 : decide (0 < x4_1) = false := decide_eq_false c3
     clear c3
     obtain rfl := Option.some.inj H
     go_wp2
     go_ret
     exact ⟨by first | rfl | (simp; done) | (simp [*]; done), by repeat (first | exact Drawn0.refl _ | apply Drawn0.step)⟩
   ·rw [if_neg c2] at H
    have c2b0 : decide (248 ≤ a0) = false := decide_eq_false c2
    clear c2
    obtain rfl := Option.some.inj H
    go_wp2
    go_ret
    exact ⟨by first | rfl | (simp; done) | (simp [*]; done), by repeat (first | exact Drawn0.refl _ | apply Drawn0.step)⟩

/-! ### leb_Take: function 58 -/
def leb_Take.l0 : Nat → ByteArray → Int → Int → Int → Option (Int × Int × Int)
 | 0, _, _, _, _ => none
 | k + 1, x0, x5, x6, x7 => if x7 ≤ x5 then (if 0 ≤ x7 then (if x7 < (x0.size : Int) then (leb_Take.l0 k x0 x5 (Go.bits .or .i64 (wrap64 (x6 * 256)) (wrap64 (bt x0 x7))) (wrap64 (x7 + 1))) else (none)) else (none)) else ((leb_more.f k x6).bind fun t101 => (if t101 = x5 then (some (x6, wrap64 (1 + x5), 0)) else (some (0, 0, 3))))
def leb_Take.f (k : Nat) (a0 : ByteArray) : Option (Int × Int × Int) := if a0.toList = ([] : List UInt8) then (some (0, 0, 4)) else (if 0 < (a0.size : Int) then (if (wrap64 ((wrap64 ((wrap64 (bt a0 0)) - 248)) + 1)) ≤ 0 then (some (wrap64 (bt a0 0), 1, 0)) else (if (wrap64 ((wrap64 ((wrap64 (bt a0 0)) - 248)) + 1)) > 4 then (some (0, 0, 3)) else (if (a0.size : Int) ≤ (wrap64 ((wrap64 ((wrap64 (bt a0 0)) - 248)) + 1)) then (some (0, 0, 4)) else (leb_Take.l0 k a0 (wrap64 ((wrap64 ((wrap64 (bt a0 0)) - 248)) + 1)) 0 1)))) else (none))
theorem leb_Take.mono_l : ∀ k, (∀ y0 y1 y2 y3, LeO (leb_Take.l0 k y0 y1 y2 y3) (leb_Take.l0 (k + 1) y0 y1 y2 y3))
 | 0 => fun _ _ _ _ r h => by simp [leb_Take.l0] at h
 | k + 1 => by
  have ih0 := leb_Take.mono_l k
  ·intro y0 y1 y2 y3
   unfold leb_Take.l0
   repeat' first
   | (with_reducible exact ih0 _ _ _ _)
   | (with_reducible exact leb_more.mono _ _)
   | (with_reducible exact LeO.refl _)
   | (with_reducible exact LeO.none _)
   | (with_reducible refine LeO.ite ?_ ?_)
   | (with_reducible refine LeO.bind ?_ (fun _ => ?_))
   | exact ih0 _ _ _ _
   | exact leb_more.mono _ _
   | exact LeO.none _
   | refine LeO.ite ?_ ?_
   | refine LeO.bind ?_ (fun _ => ?_)
theorem leb_Take.mono : ∀ a0 k, LeO (leb_Take.f k a0) (leb_Take.f (k + 1) a0) := by
 intro a0 k
 have ih0 := leb_Take.mono_l k
 unfold leb_Take.f
 repeat' first
   | (with_reducible exact ih0 _ _ _ _)
   | (with_reducible exact leb_more.mono _ _)
   | (with_reducible exact LeO.refl _)
   | (with_reducible exact LeO.none _)
   | (with_reducible refine LeO.ite ?_ ?_)
   | (with_reducible refine LeO.bind ?_ (fun _ => ?_))
   | exact ih0 _ _ _ _
   | exact leb_more.mono _ _
   | exact LeO.none _
   | refine LeO.ite ?_ ?_
   | refine LeO.bind ?_ (fun _ => ?_)
set_option maxHeartbeats 8000000 in
set_option maxRecDepth 100000 in
theorem leb_Take.calls (k : Nat) (a0 : ByteArray) (r1 : Int) (r2 : Int) (r3 : Int) (w : World) (h : leb_Take.f k a0 = some (r1, r2, r3)) :
  Calls Try.prog 58 #[.string a0] w fun e w' => e = .returned (.tuple #[.int .i64 r1, .int .i64 r2, .int .i64 r3]) ∧ Drawn0 w w' := by
 have H : (if a0.toList = ([] : List UInt8) then (some (0, 0, 4)) else (if 0 < (a0.size : Int) then (if (wrap64 ((wrap64 ((wrap64 (bt a0 0)) - 248)) + 1)) ≤ 0 then (some (wrap64 (bt a0 0), 1, 0)) else (if (wrap64 ((wrap64 ((wrap64 (bt a0 0)) - 248)) + 1)) > 4 then (some (0, 0, 3)) else (if (a0.size : Int) ≤ (wrap64 ((wrap64 ((wrap64 (bt a0 0)) - 248)) + 1)) then (some (0, 0, 4)) else (leb_Take.l0 k a0 (wrap64 ((wrap64 ((wrap64 (bt a0 0)) - 248)) + 1)) 0 1)))) else (none))) = some (r1, r2, r3) := h
 clear h
 by_cases c2 : a0.toList = ([] : List UInt8)
 ·rw [if_pos c2] at H
  have c2b0 : (a0.toList == ([] : List UInt8)) = true := beq_iff_eq.mpr c2
  have c2b1 : (a0.toList != ([] : List UInt8)) = false := bne_eq_false_iff_eq.mpr c2
  clear c2
  simp only [Option.some.injEq, Prod.mk.injEq] at H
  obtain ⟨rfl, rfl, rfl⟩ := H
  go_enter Try.func58, Try.ntmps58
  go_wp2
  go_ret3
  exact ⟨by first | rfl | (simp; done) | (simp [*]; done), by repeat (first | exact Drawn0.refl _ | apply Drawn0.step)⟩
 ·rw [if_neg c2] at H
  have c2b0 : (a0.toList == ([] : List UInt8)) = false := beq_eq_false_iff_ne.mpr c2
  have c2b1 : (a0.toList != ([] : List UInt8)) = true := bne_iff_ne.mpr c2
  by_cases c3 : 0 < (a0.size : Int)
  ·rw [if_pos c3] at H
   have c3b0 : decide (0 < (a0.size : Int)) = true := decide_eq_true c3
   have c3b1 : decide (0 < a0.size) = true := decide_eq_true (by omega)
   clear c3
   by_cases c5 : (wrap64 ((wrap64 ((wrap64 (bt a0 0)) - 248)) + 1)) ≤ 0
   ·rw [if_pos c5] at H
    have c5b0 : decide ((wrap64 ((wrap64 ((wrap64 (bt a0 0)) - 248)) + 1)) ≤ 0) = true := decide_eq_true c5
    clear c5
    simp only [Option.some.injEq, Prod.mk.injEq] at H
    obtain ⟨rfl, rfl, rfl⟩ := H
    have p4 : 0 ≤ (0 : Int) := (by omega)
    have q4 : 0 < a0.size := (by have : (0 : Int) < (a0.size : Int) := of_decide_eq_true (by first | (with_reducible assumption) | assumption); omega)
    have hx4 : ∀ h : 0 < a0.size, ((a0[0]'h).toNat : Int) = bt a0 0 := bt_at a0 0
    clear p4
    have qi4 : (0 < (a0.size : Int)) = True := eq_true (of_decide_eq_true (by first | (with_reducible assumption) | assumption))
    replace q4 := eq_true q4
    have p6 : 0 ≤ (0 : Int) := (by omega)
    have q6 : 0 < a0.size := (by have : (0 : Int) < (a0.size : Int) := of_decide_eq_true (by first | (with_reducible assumption) | assumption); omega)
    have hx6 : ∀ h : 0 < a0.size, ((a0[0]'h).toNat : Int) = bt a0 0 := bt_at a0 0
    clear p6
    have qi6 : (0 < (a0.size : Int)) = True := eq_true (of_decide_eq_true (by first | (with_reducible assumption) | assumption))
    replace q6 := eq_true q6
    go_enter Try.func58, Try.ntmps58
    go_wp2
    go_ret3
    exact ⟨by first | rfl | (simp; done) | (simp [*]; done), by repeat (first | exact Drawn0.refl _ | apply Drawn0.step)⟩
   ·rw [if_neg c5] at H
    have c5b0 : decide ((wrap64 ((wrap64 ((wrap64 (bt a0 0)) - 248)) + 1)) ≤ 0) = false := decide_eq_false c5
    clear c5
    by_cases c7 : (wrap64 ((wrap64 ((wrap64 (bt a0 0)) - 248)) + 1)) > 4
    ·rw [if_pos c7] at H
     have c7b0 : decide (4 < (wrap64 ((wrap64 ((wrap64 (bt a0 0)) - 248)) + 1))) = true := decide_eq_true c7
     clear c7
     simp only [Option.some.injEq, Prod.mk.injEq] at H
     obtain ⟨rfl, rfl, rfl⟩ := H
     have p4 : 0 ≤ (0 : Int) := (by omega)
     have q4 : 0 < a0.size := (by have : (0 : Int) < (a0.size : Int) := of_decide_eq_true (by first | (with_reducible assumption) | assumption); omega)
     have hx4 : ∀ h : 0 < a0.size, ((a0[0]'h).toNat : Int) = bt a0 0 := bt_at a0 0
     clear p4
     have qi4 : (0 < (a0.size : Int)) = True := eq_true (of_decide_eq_true (by first | (with_reducible assumption) | assumption))
     replace q4 := eq_true q4
     go_enter Try.func58, Try.ntmps58
     go_wp2
     go_ret3
     exact ⟨by first | rfl | (simp; done) | (simp [*]; done), by repeat (first | exact Drawn0.refl _ | apply Drawn0.step)⟩
    ·rw [if_neg c7] at H
     have c7b0 : decide (4 < (wrap64 ((wrap64 ((wrap64 (bt a0 0)) - 248)) + 1))) = false := decide_eq_false c7
     clear c7
     by_cases c8 : (a0.size : Int) ≤ (wrap64 ((wrap64 ((wrap64 (bt a0 0)) - 248)) + 1))
     ·rw [if_pos c8] at H
      have c8b0 : decide ((a0.size : Int) ≤ (wrap64 ((wrap64 ((wrap64 (bt a0 0)) - 248)) + 1))) = true := decide_eq_true c8
      clear c8
      simp only [Option.some.injEq, Prod.mk.injEq] at H
      obtain ⟨rfl, rfl, rfl⟩ := H
      have p4 : 0 ≤ (0 : Int) := (by omega)
      have q4 : 0 < a0.size := (by have : (0 : Int) < (a0.size : Int) := of_decide_eq_true (by first | (with_reducible assumption) | assumption); omega)
      have hx4 : ∀ h : 0 < a0.size, ((a0[0]'h).toNat : Int) = bt a0 0 := bt_at a0 0
      clear p4
      have qi4 : (0 < (a0.size : Int)) = True := eq_true (of_decide_eq_true (by first | (with_reducible assumption) | assumption))
      replace q4 := eq_true q4
      go_enter Try.func58, Try.ntmps58
      go_wp2
      go_ret3
      exact ⟨by first | rfl | (simp; done) | (simp [*]; done), by repeat (first | exact Drawn0.refl _ | apply Drawn0.step)⟩
     ·rw [if_neg c8] at H
      have c8b0 : decide ((a0.size : Int) ≤ (wrap64 ((wrap64 ((wrap64 (bt a0 0)) - 248)) + 1))) = false := decide_eq_false c8
      clear c8
      have H' := Aside0.mk H
      clear H
      have p4 : 0 ≤ (0 : Int) := (by omega)
      have q4 : 0 < a0.size := (by have : (0 : Int) < (a0.size : Int) := of_decide_eq_true (by first | (with_reducible assumption) | assumption); omega)
      have hx4 : ∀ h : 0 < a0.size, ((a0[0]'h).toNat : Int) = bt a0 0 := bt_at a0 0
      clear p4
      have qi4 : (0 < (a0.size : Int)) = True := eq_true (of_decide_eq_true (by first | (with_reducible assumption) | assumption))
      replace q4 := eq_true q4
      go_enter Try.func58, Try.ntmps58
      go_wp2
      go_loopg [6, 7] k (fun kq v6 v7 w' => ∃ (x6_1 : Int) (x7_1 : Int), v6 = .int .i64 x6_1 ∧ v7 = .int .i64 x7_1 ∧ Aside0 (leb_Take.l0 kq a0 (wrap64 ((wrap64 ((wrap64 (bt a0 0)) - 248)) + 1)) x6_1 x7_1 = some (r1, r2, r3)) ∧ Aside0 (kq ≤ k) ∧ Drawn0 w w')
      case atStart => exact ⟨(0), (1), (by first | rfl | (simp; done) | (simp [*]; done)), (by first | rfl | (simp; done) | (simp [*]; done)), H', ⟨Nat.le_refl _⟩, by repeat (first | exact Drawn0.refl _ | apply Drawn0.step)⟩
      case round =>
       clear H'
       try clear c2
       try clear c2b0
       try clear c2b1
       try clear p2
       try clear c3
       try clear c3b0
       try clear c3b1
       try clear p4
       try clear q4
       try clear hx4
       try clear qi4
       try clear c5
       try clear c5b0
       try clear p6
       try clear q6
       try clear hx6
       try clear qi6
       try clear c7
       try clear c7b0
       try clear c8
       try clear c8b0
       try clear p4
       try clear p6
       try clear q4
       try clear q6
       obtain ⟨x6_1, x7_1, rfl, rfl, HA, HK1, ⟨m1, rfl⟩⟩ := hrel
       cases gk with
       | zero => exact absurd HA.out (by simp [leb_Take.l0])
       | succ k1 =>
        have H := HA.out
        clear HA
        simp only [leb_Take.l0] at H
        by_cases c9 : x7_1 ≤ (wrap64 ((wrap64 ((wrap64 (bt a0 0)) - 248)) + 1))
        ·rw [if_pos c9] at H
         have c9b0 : decide (x7_1 ≤ (wrap64 ((wrap64 ((wrap64 (bt a0 0)) - 248)) + 1))) = true := decide_eq_true c9
         clear c9
         by_cases c10 : 0 ≤ x7_1
         ·rw [if_pos c10] at H
          have c10b0 : decide (0 ≤ x7_1) = true := decide_eq_true c10
          clear c10
          by_cases c11 : x7_1 < (a0.size : Int)
          ·rw [if_pos c11] at H
           have c11b0 : decide (x7_1 < (a0.size : Int)) = true := decide_eq_true c11
           clear c11
           have H' := Aside0.mk H
           clear H
           have p12 : 0 ≤ (x7_1 : Int) := of_decide_eq_true (by first | (with_reducible assumption) | assumption)
           have q12 : x7_1 < (a0.size : Int) := of_decide_eq_true (by first | (with_reducible assumption) | assumption)
           have hx12 := bt_at a0 x7_1
           replace p12 := eq_true p12
           replace q12 := eq_true q12
           go_wp2
           go_roundg k1
           case measure => have := HK1.out; omega
           case rel => exact ⟨(Go.bits .or .i64 (wrap64 (x6_1 * 256)) (wrap64 (bt a0 x7_1))), (wrap64 (x7_1 + 1)), (by first | rfl | (simp; done) | (simp [*]; done)), (by first | rfl | (simp; done) | (simp [*]; done)), H', ⟨by have := HK1.out; omega⟩, by repeat (first | exact Drawn0.refl _ | apply Drawn0.step)⟩
          ·rw [if_neg c11] at H
           exact absurd H (by simp)
         ·rw [if_neg c10] at H
          exact absurd H (by simp)
        ·rw [if_neg c9] at H
         have c9b0 : decide (x7_1 ≤ (wrap64 ((wrap64 ((wrap64 (bt a0 0)) - 248)) + 1))) = false := decide_eq_false c9
         clear c9
         replace H := Option.bind_eq_some_iff.mp H
         obtain ⟨t101, A130, H⟩ := H
         replace H : (if t101 = (wrap64 ((wrap64 ((wrap64 (bt a0 0)) - 248)) + 1)) then (some (x6_1, wrap64 (1 + (wrap64 ((wrap64 ((wrap64 (bt a0 0)) - 248)) + 1))), 0)) else (some (0, 0, 3))) = some (r1, r2, r3) := H
         have A13 := Aside0.mk A130
         clear A130
         by_cases c14 : t101 = (wrap64 ((wrap64 ((wrap64 (bt a0 0)) - 248)) + 1))
         ·rw [if_pos c14] at H
          have c14b0 : (t101 == (wrap64 ((wrap64 ((wrap64 (bt a0 0)) - 248)) + 1))) = true := beq_iff_eq.mpr c14
          have c14b1 : (t101 != (wrap64 ((wrap64 ((wrap64 (bt a0 0)) - 248)) + 1))) = false := bne_eq_false_iff_eq.mpr c14
          clear c14
          simp only [Option.some.injEq, Prod.mk.injEq] at H
          obtain ⟨rfl, rfl, rfl⟩ := H
          go_wp2_with (first | ((with_reducible refine cB (f := 99) rfl ?_); refine goesL_ (some 42) rfl rfl Try.func99 (by kernel_rfl) rfl #[.int .i64 x6_1] rfl (by (try simp only [List.map_toArray, List.map_cons, List.map_nil]); first | done | rfl | (simp only [List.length_drop, List.length_take]; rfl)) ?_; (with_reducible refine (leb_more.calls k1 x6_1 t101 _ A13.out).mono ?_); rintro e w' ⟨rfl, ⟨nd, rfl⟩⟩; refine ⟨_, rfl, ?_⟩))
          go_ret3
          exact ⟨by first | rfl | (simp; done) | (simp [*]; done), by repeat (first | exact Drawn0.refl _ | apply Drawn0.step)⟩
         ·rw [if_neg c14] at H
          have c14b0 : (t101 == (wrap64 ((wrap64 ((wrap64 (bt a0 0)) - 248)) + 1))) = false := beq_eq_false_iff_ne.mpr c14
          have c14b1 : (t101 != (wrap64 ((wrap64 ((wrap64 (bt a0 0)) - 248)) + 1))) = true := bne_iff_ne.mpr c14
          simp only [Option.some.injEq, Prod.mk.injEq] at H
          obtain ⟨rfl, rfl, rfl⟩ := H
          go_wp2_with (first | ((with_reducible refine cB (f := 99) rfl ?_); refine goesL_ (some 42) rfl rfl Try.func99 (by kernel_rfl) rfl #[.int .i64 x6_1] rfl (by (try simp only [List.map_toArray, List.map_cons, List.map_nil]); first | done | rfl | (simp only [List.length_drop, List.length_take]; rfl)) ?_; (with_reducible refine (leb_more.calls k1 x6_1 t101 _ A13.out).mono ?_); rintro e w' ⟨rfl, ⟨nd, rfl⟩⟩; refine ⟨_, rfl, ?_⟩))
          go_ret3
          exact ⟨by first | rfl | (simp; done) | (simp [*]; done), by repeat (first | exact Drawn0.refl _ | apply Drawn0.step)⟩
  ·rw [if_neg c3] at H
   exact absurd H (by simp)

/-! ### sig_TakeType: function 26 -/
def sig_TakeType.l0 : Nat → ByteArray → Int → Int → Int → List (S115) → Option ((List (S115)) × Int × Int)
 | 0, _, _, _, _, _ => none
 | k + 1, x0, x6, x27, x28, x107000 => if x28 < x27 then (if 0 ≤ x6 then (if x6 ≤ (x0.size : Int) then ((leb_Take.f k (x0.extract (x6 : Int).toNat x0.size)).bind fun bt107 => (if bt107.2.2 = 0 then (if x107000.length < 8796093022208 then (sig_TakeType.l0 k x0 (wrap64 (x6 + bt107.2.1)) x27 (wrap64 (x28 + 1)) (x107000 ++ [(⟨wrap64 (Int.tdiv bt107.1 2), ((Int.tmod bt107.1 2) == 1)⟩ : S115)])) else (none)) else (some (([] : List (S115)), 0, bt107.2.2)))) else (none)) else (none)) else (some (x107000, x6, 0))
def sig_TakeType.f (k : Nat) (a0 : ByteArray) : Option ((List (S115)) × Int × Int) := (leb_Take.f k a0).bind fun bt103 => (if bt103.2.2 = 0 then (if bt103.1 > 16 then (some (([] : List (S115)), 0, 6)) else (sig_TakeType.l0 k a0 bt103.2.1 bt103.1 0 ([] : List (S115)))) else (some (([] : List (S115)), 0, bt103.2.2)))
theorem sig_TakeType.mono_l : ∀ k, (∀ y0 y1 y2 y3 y4, LeO (sig_TakeType.l0 k y0 y1 y2 y3 y4) (sig_TakeType.l0 (k + 1) y0 y1 y2 y3 y4))
 | 0 => fun _ _ _ _ _ r h => by simp [sig_TakeType.l0] at h
 | k + 1 => by
  have ih0 := sig_TakeType.mono_l k
  ·intro y0 y1 y2 y3 y4
   unfold sig_TakeType.l0
   repeat' first
   | (with_reducible exact ih0 _ _ _ _ _)
   | (with_reducible exact leb_Take.mono _ _)
   | (with_reducible exact LeO.refl _)
   | (with_reducible exact LeO.none _)
   | (with_reducible refine LeO.ite ?_ ?_)
   | (with_reducible refine LeO.bind ?_ (fun _ => ?_))
   | exact ih0 _ _ _ _ _
   | exact leb_Take.mono _ _
   | exact LeO.none _
   | refine LeO.ite ?_ ?_
   | refine LeO.bind ?_ (fun _ => ?_)
theorem sig_TakeType.mono : ∀ a0 k, LeO (sig_TakeType.f k a0) (sig_TakeType.f (k + 1) a0) := by
 intro a0 k
 have ih0 := sig_TakeType.mono_l k
 unfold sig_TakeType.f
 repeat' first
   | (with_reducible exact ih0 _ _ _ _ _)
   | (with_reducible exact leb_Take.mono _ _)
   | (with_reducible exact LeO.refl _)
   | (with_reducible exact LeO.none _)
   | (with_reducible refine LeO.ite ?_ ?_)
   | (with_reducible refine LeO.bind ?_ (fun _ => ?_))
   | exact ih0 _ _ _ _ _
   | exact leb_Take.mono _ _
   | exact LeO.none _
   | refine LeO.ite ?_ ?_
   | refine LeO.bind ?_ (fun _ => ?_)
set_option maxHeartbeats 8000000 in
set_option maxRecDepth 100000 in
theorem sig_TakeType.calls (k : Nat) (a0 : ByteArray) (r1 : List (S115)) (r2 : Int) (r3 : Int) (w : World) (h : sig_TakeType.f k a0 = some (r1, r2, r3)) :
  Calls Try.prog 26 #[.string a0] w fun e w' => ∃ v0_ : Value, e = .returned (.tuple #[.agg #[v0_], .int .i64 r2, .int .i64 r3]) ∧ Kd.R k115 115 w' w.heap.size (fun _ => True) v0_ r1 ∧ Below w.heap.size w w' := by
 have hu44 := Try.underlying44
 have hu115 := Try.underlying115
 have HB := Aside0.mk (Below.refl w.heap.size w)
 have H : ((leb_Take.f k a0).bind fun bt103 => (if bt103.2.2 = 0 then (if bt103.1 > 16 then (some (([] : List (S115)), 0, 6)) else (sig_TakeType.l0 k a0 bt103.2.1 bt103.1 0 ([] : List (S115)))) else (some (([] : List (S115)), 0, bt103.2.2)))) = some (r1, r2, r3) := h
 clear h
 replace H := Option.bind_eq_some_iff.mp H
 obtain ⟨⟨t103, t104, t105⟩, A20, H⟩ := H
 replace H : (if t105 = 0 then (if t103 > 16 then (some (([] : List (S115)), 0, 6)) else (sig_TakeType.l0 k a0 t104 t103 0 ([] : List (S115)))) else (some (([] : List (S115)), 0, t105))) = some (r1, r2, r3) := H
 have A2 := Aside0.mk A20
 clear A20
 by_cases c3 : t105 = 0
 ·rw [if_pos c3] at H
  have c3b0 : (t105 == 0) = true := beq_iff_eq.mpr c3
  have c3b1 : (t105 != 0) = false := bne_eq_false_iff_eq.mpr c3
  clear c3
  by_cases c4 : t103 > 16
  ·rw [if_pos c4] at H
   have c4b0 : decide (16 < t103) = true := decide_eq_true c4
   clear c4
   simp only [Option.some.injEq, Prod.mk.injEq] at H
   obtain ⟨rfl, rfl, rfl⟩ := H
   go_enter Try.func26, Try.ntmps26
   go_wp2_with (first | ((with_reducible refine bZ (N := 2) rfl ?_); refine bY ?hg (N := 2) ?hd (cs := #[.slice none 0 0]) (t := 44) ?hr ?_; (case hd => rfl); (case hg => rfl); (case hr => first | (go_simp; done) | (go_simp; rfl)); intro gb102 hg w5 hbox hb; have n0_ := Aside0.mk (bM (by repeat (first | (with_reducible first | exact HB.out | apply bC | apply bA | apply bB) | exact HB.out)) hb); have n1_ := Aside0.mk (hbox); have n2_ := Aside0.mk ((by rw [hg]; exact (bK (by repeat (first | (with_reducible first | exact HB.out | apply bC | apply bA | apply bB) | exact HB.out))) : w.heap.size ≤ gb102)); have n3_ := Aside0.mk ((by rw [hg]; exact (bK (by repeat (first | (with_reducible first | exact HB.out | apply bC | apply bA | apply bB) | exact HB.out))) : w.heap.size ≤ gb102)); clear HB; have HB := n0_; have BK102 := n1_; have GW102 := n2_; have GE102 := n3_; clear n0_ n1_ n2_ n3_; clear hb hbox hg) | ((with_reducible refine cB (f := 58) rfl ?_); refine goesL_ (some 14) rfl rfl Try.func58 (by kernel_rfl) rfl #[.string a0] rfl (by (try simp only [List.map_toArray, List.map_cons, List.map_nil]); first | done | rfl | (simp only [List.length_drop, List.length_take]; rfl)) ?_; (with_reducible refine (leb_Take.calls k a0 t103 t104 t105 _ A2.out).mono ?_); rintro e w' ⟨rfl, ⟨nd, rfl⟩⟩; refine ⟨_, rfl, ?_⟩; (try (rw [drewN_self w5]; generalize hq_ : World.drewN w5 _ = w5; have n0_ : Aside0 (w5.heap[gb102]? = some (.cells #[.slice none 0 0] 44 (0, 0))) := ⟨by rw [← hq_]; exact (by (with_reducible repeat (first | refine bF ?_ _ | refine bG ?_ | refine bE ?_ _)); exact BK102.out)⟩; have n1_ : Aside0 (Below w.heap.size w w5) := ⟨by rw [← hq_]; exact (by repeat (first | (with_reducible first | exact HB.out | apply bC | apply bA | apply bB | refine bD ?_ GE102.out) | exact HB.out))⟩; clear BK102 HB hq_; have BK102 := n0_; have HB := n1_; clear n0_ n1_)); have hcz6_0 : w5.cell? ⟨gb102, 0, none⟩ = some (.slice none 0 0) := (bH BK102.out 0).trans rfl; have hfz6_0 := bJ BK102.out 0))
   refine bodyPost_ret (results_ctt rfl _ _ gb102 44 #[.slice none 0 0] (0, 0) _ rfl (by (with_reducible repeat (first | refine bF ?_ _ | refine bG ?_ | refine bE ?_ _)); refine blk_put (cs := #[.slice none 0 0]) ?_ 0 _ rfl; (with_reducible repeat (first | refine bF ?_ _ | refine bG ?_ | refine bE ?_ _)); exact BK102.out) Try.underlying44 rfl (by kernel_rfl)) rfl ?_
   exact ⟨_, by first | rfl | (simp [errW_none, errW_some] <;> rfl) | (simp [*, errW_none, errW_some] <;> rfl), by first | exact Kd.R_nil _ _ _ _ _ | exact Kd.N_nil _ _ _ _ _ | exact Kd.V_nil _ _ _ _ _ | exact Kd.Q_nil _ _ _ _ _ | exact Kd.S_nil _ _ _ _ _, by repeat (first | (with_reducible first | exact HB.out | apply bC | apply bA | apply bB | refine bD ?_ GE102.out) | exact HB.out)⟩
  ·rw [if_neg c4] at H
   have c4b0 : decide (16 < t103) = false := decide_eq_false c4
   clear c4
   have H' := Aside0.mk H
   clear H
   go_enter Try.func26, Try.ntmps26
   go_wp2_with (first | ((with_reducible refine bZ (N := 2) rfl ?_); refine bY ?hg (N := 2) ?hd (cs := #[.slice none 0 0]) (t := 44) ?hr ?_; (case hd => rfl); (case hg => rfl); (case hr => first | (go_simp; done) | (go_simp; rfl)); intro gb102 hg w7 hbox hb; have n0_ := Aside0.mk (bM (by repeat (first | (with_reducible first | exact HB.out | apply bC | apply bA | apply bB) | exact HB.out)) hb); have n1_ := Aside0.mk (hbox); have n2_ := Aside0.mk ((by rw [hg]; exact (bK (by repeat (first | (with_reducible first | exact HB.out | apply bC | apply bA | apply bB) | exact HB.out))) : w.heap.size ≤ gb102)); have n3_ := Aside0.mk ((by rw [hg]; exact (bK (by repeat (first | (with_reducible first | exact HB.out | apply bC | apply bA | apply bB) | exact HB.out))) : w.heap.size ≤ gb102)); clear HB; have HB := n0_; have BK102 := n1_; have GW102 := n2_; have GE102 := n3_; clear n0_ n1_ n2_ n3_; clear hb hbox hg) | ((with_reducible refine cB (f := 58) rfl ?_); refine goesL_ (some 14) rfl rfl Try.func58 (by kernel_rfl) rfl #[.string a0] rfl (by (try simp only [List.map_toArray, List.map_cons, List.map_nil]); first | done | rfl | (simp only [List.length_drop, List.length_take]; rfl)) ?_; (with_reducible refine (leb_Take.calls k a0 t103 t104 t105 _ A2.out).mono ?_); rintro e w' ⟨rfl, ⟨nd, rfl⟩⟩; refine ⟨_, rfl, ?_⟩) | ((with_reducible refine bZ (N := 8) rfl ?_); refine bY ?hg (N := 8) ?hd (cs := #[.slice none 0 0]) (t := 44) ?hr ?_; (case hd => rfl); (case hg => rfl); (case hr => first | (go_simp; done) | (go_simp; rfl)); intro gb106 hg w8 hbox hb; have n0_ := Aside0.mk (bL (g := gb102) (o := .cells #[.slice none 0 0] 44 (0, 0)) (by (with_reducible repeat (first | refine bF ?_ _ | refine bG ?_ | refine bE ?_ _)); exact BK102.out) hb); have n1_ := Aside0.mk (bM (by repeat (first | (with_reducible first | exact HB.out | apply bC | apply bA | apply bB | refine bD ?_ GE102.out) | exact HB.out)) hb); have n2_ := Aside0.mk (hbox); have n3_ := Aside0.mk ((by rw [hg]; exact (bK (by repeat (first | (with_reducible first | exact HB.out | apply bC | apply bA | apply bB | refine bD ?_ GE102.out) | exact HB.out))) : w.heap.size ≤ gb106)); have n4_ := Aside0.mk ((by rw [hg]; exact (bK (by repeat (first | (with_reducible first | exact HB.out | apply bC | apply bA | apply bB | refine bD ?_ GE102.out) | exact HB.out))) : w.heap.size ≤ gb106)); have n5_ := Aside0.mk ((by rw [hg]; exact Nat.ne_of_lt (cD (g := gb102) (o := .cells #[.slice none 0 0] 44 (0, 0)) (by (with_reducible repeat (first | refine bF ?_ _ | refine bG ?_ | refine bE ?_ _)); exact BK102.out)) : gb102 ≠ gb106)); have n6_ := Aside0.mk ((by rw [hg]; exact Nat.ne_of_gt (cD (g := gb102) (o := .cells #[.slice none 0 0] 44 (0, 0)) (by (with_reducible repeat (first | refine bF ?_ _ | refine bG ?_ | refine bE ?_ _)); exact BK102.out)) : gb106 ≠ gb102)); clear BK102; clear HB; have BK102 := n0_; have HB := n1_; have BK106 := n2_; have GW106 := n3_; have GE106 := n4_; have NB102_106 := n5_; have NB106_102 := n6_; clear n0_ n1_ n2_ n3_ n4_ n5_ n6_; clear hb hbox hg))
   go_loopg [6, 28] k (fun kq v6 v28 w' => ∃ (x6_1 : Int) (x28_1 : Int) (x107000_1 : List (S115)) (u107000 : Value), v6 = .int .i64 x6_1 ∧ v28 = .int .i64 x28_1 ∧ Aside0 (sig_TakeType.l0 kq a0 x6_1 t103 x28_1 x107000_1 = some (r1, r2, r3)) ∧ Aside0 (kq ≤ k) ∧ Aside0 (Kd.R k115 115 w' w.heap.size (fun _ => True) u107000 x107000_1) ∧ Aside0 (w'.heap[gb102]? = some (.cells #[(.slice none 0 0)] 44 (0, 0))) ∧ Aside0 (w'.heap[gb106]? = some (.cells #[u107000] 44 (0, 0))) ∧ Aside0 (Below w.heap.size w w'))
   case atStart => exact ⟨(t104), (0), (([] : List (S115))), (.slice none 0 0), (by first | rfl | (simp; done) | (simp [*]; done)), (by first | rfl | (simp; done) | (simp [*]; done)), H', ⟨Nat.le_refl _⟩, ⟨by first | exact Kd.R_nil _ _ _ _ _ | exact Kd.N_nil _ _ _ _ _ | exact Kd.V_nil _ _ _ _ _ | exact Kd.Q_nil _ _ _ _ _ | exact Kd.S_nil _ _ _ _ _⟩, ⟨by (with_reducible repeat (first | refine bF ?_ _ | refine bG ?_ | refine bE ?_ _)); exact BK102.out⟩, ⟨by (with_reducible repeat (first | refine bF ?_ _ | refine bG ?_ | refine bE ?_ _)); exact BK106.out⟩, ⟨by repeat (first | (with_reducible first | exact HB.out | apply bC | apply bA | apply bB | refine bD ?_ GE102.out | refine bD ?_ GE106.out) | exact HB.out)⟩⟩
   case round =>
    clear H'
    try clear c2
    try clear p2
    try clear c3
    try clear c3b0
    try clear c3b1
    try clear c4
    try clear c4b0
    try clear c5
    try clear hcz6_0
    try clear hfz6_0
    obtain ⟨x6_1, x28_1, x107000_1, u107000, rfl, rfl, HA, HK1, HO_107000, BK102, BK106, HB⟩ := hrel
    cases gk with
    | zero => exact absurd HA.out (by simp [sig_TakeType.l0])
    | succ k1 =>
     have H := HA.out
     clear HA
     simp only [sig_TakeType.l0] at H
     by_cases c9 : x28_1 < t103
     ·rw [if_pos c9] at H
      have c9b0 : decide (x28_1 < t103) = true := decide_eq_true c9
      clear c9
      by_cases c10 : 0 ≤ x6_1
      ·rw [if_pos c10] at H
       have c10b0 := eq_true c10
       have c10b1 : decide (0 ≤ x6_1) = true := decide_eq_true c10
       clear c10
       by_cases c11 : x6_1 ≤ (a0.size : Int)
       ·rw [if_pos c11] at H
        have c11b0 := eq_true c11
        have c11b1 : decide (x6_1 ≤ (a0.size : Int)) = true := decide_eq_true c11
        clear c11
        replace H := Option.bind_eq_some_iff.mp H
        obtain ⟨⟨t107, t108, t109⟩, A120, H⟩ := H
        replace H : (if t109 = 0 then (if x107000_1.length < 8796093022208 then (sig_TakeType.l0 k1 a0 (wrap64 (x6_1 + t108)) t103 (wrap64 (x28_1 + 1)) (x107000_1 ++ [(⟨wrap64 (Int.tdiv t107 2), ((Int.tmod t107 2) == 1)⟩ : S115)])) else (none)) else (some (([] : List (S115)), 0, t109))) = some (r1, r2, r3) := H
        have A12 := Aside0.mk A120
        clear A120
        by_cases c13 : t109 = 0
        ·rw [if_pos c13] at H
         have c13b0 : (t109 == 0) = true := beq_iff_eq.mpr c13
         have c13b1 : (t109 != 0) = false := bne_eq_false_iff_eq.mpr c13
         clear c13
         by_cases c14 : x107000_1.length < 8796093022208
         ·rw [if_pos c14] at H
          have LMc14 := Aside0.mk c14
          clear c14
          obtain ⟨y110, hy110⟩ : ∃ y_ : List (S115), y_ = (x107000_1 ++ [(⟨wrap64 (Int.tdiv t107 2), ((Int.tmod t107 2) == 1)⟩ : S115)]) := ⟨_, rfl⟩
          replace H : (sig_TakeType.l0 k1 a0 (wrap64 (x6_1 + t108)) t103 (wrap64 (x28_1 + 1)) y110) = some (r1, r2, r3) := by first | (rw [hy110]; with_reducible exact H) | (have H2_ := (Option.bind_some _ _).symm.trans H; rw [hy110]; with_reducible exact H2_) | (have H2_ := (Option.bind_some _ _).symm.trans H; with_reducible exact H2_) | with_reducible exact H | (rw [hy110]; exact H) | exact H
          have Ny110 := Aside0.mk hy110
          clear hy110
          have H' := Aside0.mk H
          clear H
          go_wp2_with (first | ((with_reducible refine cB (f := 58) rfl ?_); refine goesL_ (some 34) rfl rfl Try.func58 (by kernel_rfl) rfl #[.string (a0.extract (x6_1 : Int).toNat a0.size)] rfl (by (try simp only [List.map_toArray, List.map_cons, List.map_nil]); first | done | rfl | (simp only [List.length_drop, List.length_take]; rfl)) ?_; (with_reducible refine (leb_Take.calls k1 (a0.extract (x6_1 : Int).toNat a0.size) t107 t108 t109 _ A12.out).mono ?_); rintro e w' ⟨rfl, ⟨nd, rfl⟩⟩; refine ⟨_, rfl, ?_⟩; (try (rw [drewN_self wr]; generalize hq_ : World.drewN wr _ = wr; have n0_ : Aside0 (Kd.R k115 115 wr w.heap.size (fun _ => True) u107000 x107000_1) := ⟨by rw [← hq_]; exact (by (with_reducible repeat (first | apply Kd.bR | apply Kd.bQ | apply Kd.bT)); exact HO_107000.out)⟩; have n1_ : Aside0 (wr.heap[gb102]? = some (.cells #[.slice none 0 0] 44 (0, 0))) := ⟨by rw [← hq_]; exact (by (with_reducible repeat (first | refine bF ?_ _ | refine bG ?_ | refine bE ?_ _)); exact BK102.out)⟩; have n2_ : Aside0 (wr.heap[gb106]? = some (.cells #[u107000] 44 (0, 0))) := ⟨by rw [← hq_]; exact (by (with_reducible repeat (first | refine bF ?_ _ | refine bG ?_ | refine bE ?_ _)); exact BK106.out)⟩; have n3_ : Aside0 (Below w.heap.size w wr) := ⟨by rw [← hq_]; exact (by repeat (first | (with_reducible first | exact HB.out | apply bC | apply bA | apply bB | refine bD ?_ GE102.out | refine bD ?_ GE106.out) | exact HB.out))⟩; clear HO_107000 BK102 BK106 HB hq_; have HO_107000 := n0_; have BK102 := n1_; have BK106 := n2_; have HB := n3_; clear n0_ n1_ n2_ n3_)); have hnb15 := NB106_102.out; have hnc15 := NB102_106.out; have hcz16_0 : wr.cell? ⟨gb106, 0, none⟩ = some (u107000) := (bH BK106.out 0).trans rfl; have hfz16_0 := bJ BK106.out 0) | ((with_reducible refine gate_builtin (b := .append) (xs := #[.tmp 43, .tmp 50]) rfl ?_); at_builtin; refine Kd.R_append k115 (w0 := w) w.heap.size rfl (.tmp 43) (.tmp 50) 42 115 (.agg #[(.int .i64 0), (.bool false)]) 16 rfl Try.underlying42 info115 rfl (by decide) (by omega) u107000 x107000_1 (⟨wrap64 (Int.tdiv t107 2), ((Int.tmod t107 2) == 1)⟩ : S115) [.int .i64 (wrap64 (Int.tdiv t107 2)), .bool ((Int.tmod t107 2) == 1)] (fun _ => True) (fun _ => False) rfl rfl ?aP (fun _ hk => hk.elim) ?aF ?aO ?aB ?aS ?aL ?_; (case aP => exact k115_mkM _ _ _ (⟨wrap64 (Int.tdiv t107 2), ((Int.tmod t107 2) == 1)⟩ : S115)); (case aB => exact (by repeat (first | (with_reducible first | exact HB.out | apply bC | apply bA | apply bB | refine bD ?_ GE102.out | refine bD ?_ GE106.out) | exact HB.out))); (case aF => exact (fun _ _ => trivial)); (case aO => exact (by (with_reducible repeat (first | apply Kd.bR | apply Kd.bQ | apply Kd.bT)); exact HO_107000.out)); (case aS => exact (bK (by repeat (first | (with_reducible first | exact HB.out | apply bC | apply bA | apply bB | refine bD ?_ GE102.out | refine bD ?_ GE106.out) | exact HB.out)))); (case aL => have := LMc14.out; omega); intro v111 w17 ho hb hg hat; rw [← Ny110.out] at ho; have n0_ := Aside0.mk (blk_grown (g := gb102) (o := .cells #[.slice none 0 0] 44 (0, 0)) (by (with_reducible repeat (first | refine bF ?_ _ | refine bG ?_ | refine bE ?_ _)); exact BK102.out) hg (Kd.R_ne HO_107000.out BK102.out (by decide))); have n1_ := Aside0.mk (blk_grown (g := gb106) (o := .cells #[u107000] 44 (0, 0)) (by (with_reducible repeat (first | refine bF ?_ _ | refine bG ?_ | refine bE ?_ _)); exact BK106.out) hg (Kd.R_ne HO_107000.out BK106.out (by decide))); have n2_ := Aside0.mk (hb); have n3_ := Aside0.mk (ho); clear BK102; clear BK106; clear HB; clear HO_107000; have BK102 := n0_; have BK106 := n1_; have HB := n2_; have HO112 := n3_; clear n0_ n1_ n2_ n3_; clear ho hb hg hat; obtain ⟨Ao18, co18, eo18⟩ := Kd.R_slice HO112.out; subst eo18; have hcz19_0 : w17.cell? ⟨gb106, 0, none⟩ = some (u107000) := (bH BK106.out 0).trans rfl; have hfz19_0 := bJ BK106.out 0))
          go_roundg k1
          case measure => have := HK1.out; omega
          case rel => exact ⟨(wrap64 (x6_1 + t108)), (wrap64 (x28_1 + 1)), (y110), (.slice Ao18 y110.length co18), (by first | rfl | (simp; done) | (simp [*]; done)), (by first | rfl | (simp; done) | (simp [*]; done)), H', ⟨by have := HK1.out; omega⟩, ⟨by (with_reducible repeat (first | apply Kd.bR | apply Kd.bQ | apply Kd.bT)); exact Kd.R_mono (Kd.R_far (p := ⟨gb106, 0, none⟩) (Kd.R_types HO112.out BK106.out (by decide)) (fun _ hk => hk.2) (.slice Ao18 y110.length co18)) (fun _ hk => trivial)⟩, ⟨by (with_reducible repeat (first | refine bF ?_ _ | refine bG ?_ | refine bE ?_ _)); refine blk_far ?_ NB102_106.out _; (with_reducible repeat (first | refine bF ?_ _ | refine bG ?_ | refine bE ?_ _)); exact BK102.out⟩, ⟨by (with_reducible repeat (first | refine bF ?_ _ | refine bG ?_ | refine bE ?_ _)); refine blk_put (cs := #[u107000]) ?_ 0 _ rfl; (with_reducible repeat (first | refine bF ?_ _ | refine bG ?_ | refine bE ?_ _)); exact BK106.out⟩, ⟨by repeat (first | (with_reducible first | exact HB.out | apply bC | apply bA | apply bB | refine bD ?_ GE102.out | refine bD ?_ GE106.out) | exact HB.out)⟩⟩
         ·rw [if_neg c14] at H
          exact absurd H (by simp)
        ·rw [if_neg c13] at H
         have c13b0 : (t109 == 0) = false := beq_eq_false_iff_ne.mpr c13
         have c13b1 : (t109 != 0) = true := bne_iff_ne.mpr c13
         simp only [Option.some.injEq, Prod.mk.injEq] at H
         obtain ⟨rfl, rfl, rfl⟩ := H
         go_wp2_with (first | ((with_reducible refine cB (f := 58) rfl ?_); refine goesL_ (some 34) rfl rfl Try.func58 (by kernel_rfl) rfl #[.string (a0.extract (x6_1 : Int).toNat a0.size)] rfl (by (try simp only [List.map_toArray, List.map_cons, List.map_nil]); first | done | rfl | (simp only [List.length_drop, List.length_take]; rfl)) ?_; (with_reducible refine (leb_Take.calls k1 (a0.extract (x6_1 : Int).toNat a0.size) t107 t108 t109 _ A12.out).mono ?_); rintro e w' ⟨rfl, ⟨nd, rfl⟩⟩; refine ⟨_, rfl, ?_⟩; (try (rw [drewN_self wr]; generalize hq_ : World.drewN wr _ = wr; have n0_ : Aside0 (Kd.R k115 115 wr w.heap.size (fun _ => True) u107000 x107000_1) := ⟨by rw [← hq_]; exact (by (with_reducible repeat (first | apply Kd.bR | apply Kd.bQ | apply Kd.bT)); exact HO_107000.out)⟩; have n1_ : Aside0 (wr.heap[gb102]? = some (.cells #[.slice none 0 0] 44 (0, 0))) := ⟨by rw [← hq_]; exact (by (with_reducible repeat (first | refine bF ?_ _ | refine bG ?_ | refine bE ?_ _)); exact BK102.out)⟩; have n2_ : Aside0 (wr.heap[gb106]? = some (.cells #[u107000] 44 (0, 0))) := ⟨by rw [← hq_]; exact (by (with_reducible repeat (first | refine bF ?_ _ | refine bG ?_ | refine bE ?_ _)); exact BK106.out)⟩; have n3_ : Aside0 (Below w.heap.size w wr) := ⟨by rw [← hq_]; exact (by repeat (first | (with_reducible first | exact HB.out | apply bC | apply bA | apply bB | refine bD ?_ GE102.out | refine bD ?_ GE106.out) | exact HB.out))⟩; clear HO_107000 BK102 BK106 HB hq_; have HO_107000 := n0_; have BK102 := n1_; have BK106 := n2_; have HB := n3_; clear n0_ n1_ n2_ n3_)); have hnb20 := NB102_106.out; have hnc20 := NB106_102.out; have hcz21_0 : wr.cell? ⟨gb102, 0, none⟩ = some (.slice none 0 0) := (bH BK102.out 0).trans rfl; have hfz21_0 := bJ BK102.out 0))
         refine bodyPost_ret (results_ctt rfl _ _ gb102 44 #[.slice none 0 0] (0, 0) _ rfl (by (with_reducible repeat (first | refine bF ?_ _ | refine bG ?_ | refine bE ?_ _)); refine blk_put (cs := #[.slice none 0 0]) ?_ 0 _ rfl; (with_reducible repeat (first | refine bF ?_ _ | refine bG ?_ | refine bE ?_ _)); exact BK102.out) Try.underlying44 rfl (by kernel_rfl)) rfl ?_
         exact ⟨_, by first | rfl | (simp [errW_none, errW_some] <;> rfl) | (simp [*, errW_none, errW_some] <;> rfl), by first | exact Kd.R_nil _ _ _ _ _ | exact Kd.N_nil _ _ _ _ _ | exact Kd.V_nil _ _ _ _ _ | exact Kd.Q_nil _ _ _ _ _ | exact Kd.S_nil _ _ _ _ _, by repeat (first | (with_reducible first | exact HB.out | apply bC | apply bA | apply bB | refine bD ?_ GE102.out | refine bD ?_ GE106.out) | exact HB.out)⟩
       ·rw [if_neg c11] at H
        exact absurd H (by simp)
      ·rw [if_neg c10] at H
       exact absurd H (by simp)
     ·rw [if_neg c9] at H
      have c9b0 : decide (x28_1 < t103) = false := decide_eq_false c9
      clear c9
      simp only [Option.some.injEq, Prod.mk.injEq] at H
      obtain ⟨rfl, rfl, rfl⟩ := H
      have hnb22 := NB106_102.out
      have hnc22 := NB102_106.out
      have hcz23_0 : wr.cell? ⟨gb106, 0, none⟩ = some (u107000) := (bH BK106.out 0).trans rfl
      have hfz23_0 := bJ BK106.out 0
      obtain ⟨Ao24, co24, eo24⟩ := Kd.R_slice HO_107000.out
      subst eo24
      have hcz25_0 : wr.cell? ⟨gb102, 0, none⟩ = some (.slice none 0 0) := (bH BK102.out 0).trans rfl
      have hfz25_0 := bJ BK102.out 0
      go_wp2
      refine bodyPost_ret (results_ctt rfl _ _ gb102 44 #[.slice Ao24 x107000_1.length co24] (0, 0) _ rfl (by (with_reducible repeat (first | refine bF ?_ _ | refine bG ?_ | refine bE ?_ _)); refine blk_put (cs := #[.slice none 0 0]) ?_ 0 _ rfl; (with_reducible repeat (first | refine bF ?_ _ | refine bG ?_ | refine bE ?_ _)); exact BK102.out) Try.underlying44 rfl (by kernel_rfl)) rfl ?_
      exact ⟨_, by first | rfl | (simp [errW_none, errW_some] <;> rfl) | (simp [*, errW_none, errW_some] <;> rfl), by (with_reducible repeat (first | apply Kd.bR | apply Kd.bQ | apply Kd.bT)); exact Kd.R_mono (Kd.R_far (p := ⟨gb102, 0, none⟩) (Kd.R_types HO_107000.out BK102.out (by decide)) (fun _ hk => hk.2) (.slice Ao24 x107000_1.length co24)) (fun _ hk => trivial), by repeat (first | (with_reducible first | exact HB.out | apply bC | apply bA | apply bB | refine bD ?_ GE102.out | refine bD ?_ GE106.out) | exact HB.out)⟩
 ·rw [if_neg c3] at H
  have c3b0 : (t105 == 0) = false := beq_eq_false_iff_ne.mpr c3
  have c3b1 : (t105 != 0) = true := bne_iff_ne.mpr c3
  simp only [Option.some.injEq, Prod.mk.injEq] at H
  obtain ⟨rfl, rfl, rfl⟩ := H
  go_enter Try.func26, Try.ntmps26
  go_wp2_with (first | ((with_reducible refine bZ (N := 2) rfl ?_); refine bY ?hg (N := 2) ?hd (cs := #[.slice none 0 0]) (t := 44) ?hr ?_; (case hd => rfl); (case hg => rfl); (case hr => first | (go_simp; done) | (go_simp; rfl)); intro gb102 hg w26 hbox hb; have n0_ := Aside0.mk (bM (by repeat (first | (with_reducible first | exact HB.out | apply bC | apply bA | apply bB) | exact HB.out)) hb); have n1_ := Aside0.mk (hbox); have n2_ := Aside0.mk ((by rw [hg]; exact (bK (by repeat (first | (with_reducible first | exact HB.out | apply bC | apply bA | apply bB) | exact HB.out))) : w.heap.size ≤ gb102)); have n3_ := Aside0.mk ((by rw [hg]; exact (bK (by repeat (first | (with_reducible first | exact HB.out | apply bC | apply bA | apply bB) | exact HB.out))) : w.heap.size ≤ gb102)); clear HB; have HB := n0_; have BK102 := n1_; have GW102 := n2_; have GE102 := n3_; clear n0_ n1_ n2_ n3_; clear hb hbox hg) | ((with_reducible refine cB (f := 58) rfl ?_); refine goesL_ (some 14) rfl rfl Try.func58 (by kernel_rfl) rfl #[.string a0] rfl (by (try simp only [List.map_toArray, List.map_cons, List.map_nil]); first | done | rfl | (simp only [List.length_drop, List.length_take]; rfl)) ?_; (with_reducible refine (leb_Take.calls k a0 t103 t104 t105 _ A2.out).mono ?_); rintro e w' ⟨rfl, ⟨nd, rfl⟩⟩; refine ⟨_, rfl, ?_⟩; (try (rw [drewN_self w26]; generalize hq_ : World.drewN w26 _ = w26; have n0_ : Aside0 (w26.heap[gb102]? = some (.cells #[.slice none 0 0] 44 (0, 0))) := ⟨by rw [← hq_]; exact (by (with_reducible repeat (first | refine bF ?_ _ | refine bG ?_ | refine bE ?_ _)); exact BK102.out)⟩; have n1_ : Aside0 (Below w.heap.size w w26) := ⟨by rw [← hq_]; exact (by repeat (first | (with_reducible first | exact HB.out | apply bC | apply bA | apply bB | refine bD ?_ GE102.out) | exact HB.out))⟩; clear BK102 HB hq_; have BK102 := n0_; have HB := n1_; clear n0_ n1_)); have hcz27_0 : w26.cell? ⟨gb102, 0, none⟩ = some (.slice none 0 0) := (bH BK102.out 0).trans rfl; have hfz27_0 := bJ BK102.out 0))
  refine bodyPost_ret (results_ctt rfl _ _ gb102 44 #[.slice none 0 0] (0, 0) _ rfl (by (with_reducible repeat (first | refine bF ?_ _ | refine bG ?_ | refine bE ?_ _)); refine blk_put (cs := #[.slice none 0 0]) ?_ 0 _ rfl; (with_reducible repeat (first | refine bF ?_ _ | refine bG ?_ | refine bE ?_ _)); exact BK102.out) Try.underlying44 rfl (by kernel_rfl)) rfl ?_
  exact ⟨_, by first | rfl | (simp [errW_none, errW_some] <;> rfl) | (simp [*, errW_none, errW_some] <;> rfl), by first | exact Kd.R_nil _ _ _ _ _ | exact Kd.N_nil _ _ _ _ _ | exact Kd.V_nil _ _ _ _ _ | exact Kd.Q_nil _ _ _ _ _ | exact Kd.S_nil _ _ _ _ _, by repeat (first | (with_reducible first | exact HB.out | apply bC | apply bA | apply bB | refine bD ?_ GE102.out) | exact HB.out)⟩

/-! ### row_Check: function 94 -/
def row_Check.l0 : Nat → Int → List (S115) → Int → Int → Option (Int)
 | 0, _, _, _, _ => none
 | k + 1, x1, x12, x13, x14 => if x14 < x13 then (if 0 ≤ x14 then (if x14 < (x12.length : Int) then (if ((rd_T115 x12 x14).f0) < 0 then (some 7) else (if ((rd_T115 x12 x14).f0) ≥ x1 then (some 7) else (row_Check.l0 k x1 x12 x13 (wrap64 (x14 + 1))))) else (none)) else (none)) else (some 0)
def row_Check.f (k : Nat) (l0_0 : List (S115)) (a1 : Int) : Option (Int) := if (l0_0.length : Int) > 16 then (some 6) else (row_Check.l0 k a1 l0_0 (l0_0.length : Int) 0)
theorem row_Check.mono_l : ∀ k, (∀ y0 y1 y2 y3, LeO (row_Check.l0 k y0 y1 y2 y3) (row_Check.l0 (k + 1) y0 y1 y2 y3))
 | 0 => fun _ _ _ _ r h => by simp [row_Check.l0] at h
 | k + 1 => by
  have ih0 := row_Check.mono_l k
  ·intro y0 y1 y2 y3
   unfold row_Check.l0
   repeat' first
   | (with_reducible exact ih0 _ _ _ _)
   | (with_reducible exact LeO.refl _)
   | (with_reducible exact LeO.none _)
   | (with_reducible refine LeO.ite ?_ ?_)
   | (with_reducible refine LeO.bind ?_ (fun _ => ?_))
   | exact ih0 _ _ _ _
   | exact LeO.none _
   | refine LeO.ite ?_ ?_
   | refine LeO.bind ?_ (fun _ => ?_)
theorem row_Check.mono : ∀ a0 a1 k, LeO (row_Check.f k a0 a1) (row_Check.f (k + 1) a0 a1) := by
 intro a0 a1 k
 have ih0 := row_Check.mono_l k
 unfold row_Check.f
 repeat' first
   | (with_reducible exact ih0 _ _ _ _)
   | (with_reducible exact LeO.refl _)
   | (with_reducible exact LeO.none _)
   | (with_reducible refine LeO.ite ?_ ?_)
   | (with_reducible refine LeO.bind ?_ (fun _ => ?_))
   | exact ih0 _ _ _ _
   | exact LeO.none _
   | refine LeO.ite ?_ ?_
   | refine LeO.bind ?_ (fun _ => ?_)
set_option maxHeartbeats 8000000 in
set_option maxRecDepth 100000 in
theorem row_Check.calls (k : Nat) (A0_0 : Option Addr) (c0_0 : Nat) (l0_0 : List (S115)) (a1 : Int) (r : Int) (w : World) (hr0_0 : Kd.C k115 w A0_0 l0_0.length l0_0) (hc0_0 : l0_0.length ≤ c0_0) (h : row_Check.f k l0_0 a1 = some r) :
  Calls Try.prog 94 #[.agg #[.slice A0_0 l0_0.length c0_0], .int .i64 a1] w fun e w' => e = .returned (.int .i64 r) ∧ Below w.heap.size w w' := by
 have hu44 := Try.underlying44
 have hu115 := Try.underlying115
 have HR0_0 := Aside0.mk hr0_0
 have HC0_0 := Aside0.mk hc0_0
 clear hr0_0 hc0_0
 have HB := Aside0.mk (Below.refl w.heap.size w)
 have H : (if (l0_0.length : Int) > 16 then (some 6) else (row_Check.l0 k a1 l0_0 (l0_0.length : Int) 0)) = some r := h
 clear h
 by_cases c3 : (l0_0.length : Int) > 16
 ·rw [if_pos c3] at H
  have c3b0 : decide (16 < (l0_0.length : Int)) = true := decide_eq_true c3
  have c3b1 : decide (16 < l0_0.length) = true := decide_eq_true (by omega)
  clear c3
  obtain rfl := Option.some.inj H
  go_enter Try.func94, Try.ntmps94
  go_wp2_with (first | ((with_reducible refine bZ (N := 2) rfl ?_); refine bY ?hg (N := 2) ?hd (cs := #[.slice A0_0 l0_0.length c0_0]) (t := 44) ?hr ?_; (case hd => rfl); (case hg => rfl); (case hr => first | (go_simp; done) | (go_simp; rfl)); intro gb113 hg w4 hbox hb; have n0_ := Aside0.mk (bM (by repeat (first | (with_reducible first | exact HB.out | apply bC | apply bA | apply bB) | exact HB.out)) hb); have n1_ := Aside0.mk (hbox); have n2_ := Aside0.mk ((by rw [hg]; exact (bK (by repeat (first | (with_reducible first | exact HB.out | apply bC | apply bA | apply bB) | exact HB.out))) : w.heap.size ≤ gb113)); have n3_ := Aside0.mk ((by rw [hg]; exact (bK (by repeat (first | (with_reducible first | exact HB.out | apply bC | apply bA | apply bB) | exact HB.out))) : w.heap.size ≤ gb113)); clear HB; have HB := n0_; have BK113 := n1_; have GW113 := n2_; have GE113 := n3_; clear n0_ n1_ n2_ n3_; clear hb hbox hg; have hcz5_0 : w4.cell? ⟨gb113, 0, none⟩ = some (.slice A0_0 l0_0.length c0_0) := (bH BK113.out 0).trans rfl; have hfz5_0 := bJ BK113.out 0))
  go_ret
  exact ⟨by first | rfl | (simp [errW_none, errW_some] <;> rfl) | (simp [*, errW_none, errW_some] <;> rfl), by repeat (first | (with_reducible first | exact HB.out | apply bC | apply bA | apply bB | refine bD ?_ GE113.out) | exact HB.out)⟩
 ·rw [if_neg c3] at H
  have c3b0 : decide (16 < (l0_0.length : Int)) = false := decide_eq_false c3
  have c3b1 : decide (16 < l0_0.length) = false := decide_eq_false (by omega)
  clear c3
  have H' := Aside0.mk H
  clear H
  go_enter Try.func94, Try.ntmps94
  go_wp2_with (first | ((with_reducible refine bZ (N := 2) rfl ?_); refine bY ?hg (N := 2) ?hd (cs := #[.slice A0_0 l0_0.length c0_0]) (t := 44) ?hr ?_; (case hd => rfl); (case hg => rfl); (case hr => first | (go_simp; done) | (go_simp; rfl)); intro gb113 hg w6 hbox hb; have n0_ := Aside0.mk (bM (by repeat (first | (with_reducible first | exact HB.out | apply bC | apply bA | apply bB) | exact HB.out)) hb); have n1_ := Aside0.mk (hbox); have n2_ := Aside0.mk ((by rw [hg]; exact (bK (by repeat (first | (with_reducible first | exact HB.out | apply bC | apply bA | apply bB) | exact HB.out))) : w.heap.size ≤ gb113)); have n3_ := Aside0.mk ((by rw [hg]; exact (bK (by repeat (first | (with_reducible first | exact HB.out | apply bC | apply bA | apply bB) | exact HB.out))) : w.heap.size ≤ gb113)); clear HB; have HB := n0_; have BK113 := n1_; have GW113 := n2_; have GE113 := n3_; clear n0_ n1_ n2_ n3_; clear hb hbox hg; have hcz7_0 : w6.cell? ⟨gb113, 0, none⟩ = some (.slice A0_0 l0_0.length c0_0) := (bH BK113.out 0).trans rfl; have hfz7_0 := bJ BK113.out 0))
  go_loopg [14] k (fun kq v14 w' => ∃ (x14_1 : Int), v14 = .int .i64 x14_1 ∧ Aside0 (row_Check.l0 kq a1 l0_0 (l0_0.length : Int) x14_1 = some r) ∧ Aside0 (kq ≤ k) ∧ Aside0 (w'.heap[gb113]? = some (.cells #[(.slice A0_0 l0_0.length c0_0)] 44 (0, 0))) ∧ Aside0 (Below w.heap.size w w'))
  case atStart => exact ⟨(0), (by first | rfl | (simp; done) | (simp [*]; done)), H', ⟨Nat.le_refl _⟩, ⟨by (with_reducible repeat (first | refine bF ?_ _ | refine bG ?_ | refine bE ?_ _)); exact BK113.out⟩, ⟨by repeat (first | (with_reducible first | exact HB.out | apply bC | apply bA | apply bB | refine bD ?_ GE113.out) | exact HB.out)⟩⟩
  case round =>
   clear H'
   try clear p2
   try clear c3
   try clear c3b0
   try clear c3b1
   try clear hcz5_0
   try clear hcz7_0
   try clear hfz5_0
   try clear hfz7_0
   obtain ⟨x14_1, rfl, HA, HK1, BK113, HB⟩ := hrel
   cases gk with
   | zero => exact absurd HA.out (by simp [row_Check.l0])
   | succ k1 =>
    have H := HA.out
    clear HA
    simp only [row_Check.l0] at H
    by_cases c8 : x14_1 < (l0_0.length : Int)
    ·rw [if_pos c8] at H
     have c8b0 : decide (x14_1 < (l0_0.length : Int)) = true := decide_eq_true c8
     clear c8
     by_cases c9 : 0 ≤ x14_1
     ·rw [if_pos c9] at H
      have c9b0 : decide (0 ≤ x14_1) = true := decide_eq_true c9
      clear c9
      by_cases c10 : x14_1 < (l0_0.length : Int)
      ·rw [if_pos c10] at H
       have c10b0 : decide (x14_1 < (l0_0.length : Int)) = true := decide_eq_true c10
       clear c10
       by_cases c11 : ((rd_T115 l0_0 x14_1).f0) < 0
       ·rw [if_pos c11] at H
        have c11b0 : decide (((rd_T115 l0_0 x14_1).f0) < 0) = true := decide_eq_true c11
        clear c11
        obtain rfl := Option.some.inj H
        have p114 : 0 ≤ (x14_1 : Int) := of_decide_eq_true (by first | (with_reducible assumption) | assumption)
        have q114 : x14_1 < (l0_0.length : Int) := of_decide_eq_true (by first | (with_reducible assumption) | assumption)
        obtain ⟨ad114, e114, hx114_0, hx114_1⟩ := at_T115 HR0_0.out x14_1 p114 q114
        cases e114
        replace hx114_0 := (HB.out.cell (World.block_lt_of_cell? w _ hx114_0)).trans hx114_0
        replace hx114_1 := (HB.out.cell (World.block_lt_of_cell? w _ hx114_1)).trans hx114_1
        replace p114 := eq_true p114
        replace q114 := eq_true q114
        go_wp2_with (first | ((with_reducible refine bZ (N := 6) rfl ?_); refine bY ?hg (N := 6) ?hd (cs := #[.int .i64 0, .bool false]) (t := 115) ?hr ?_; (case hd => rfl); (case hg => rfl); (case hr => first | (go_simp; done) | (go_simp; rfl)); intro gb115 hg w12 hbox hb; have n0_ := Aside0.mk (bL (g := gb113) (o := .cells #[.slice (some ad114) l0_0.length c0_0] 44 (0, 0)) (by (with_reducible repeat (first | refine bF ?_ _ | refine bG ?_ | refine bE ?_ _)); exact BK113.out) hb); have n1_ := Aside0.mk (bM (by repeat (first | (with_reducible first | exact HB.out | apply bC | apply bA | apply bB | refine bD ?_ GE113.out) | exact HB.out)) hb); have n2_ := Aside0.mk (hbox); have n3_ := Aside0.mk ((by rw [hg]; exact (bK (by repeat (first | (with_reducible first | exact HB.out | apply bC | apply bA | apply bB | refine bD ?_ GE113.out) | exact HB.out))) : w.heap.size ≤ gb115)); have n4_ := Aside0.mk ((by rw [hg]; exact (bK (by repeat (first | (with_reducible first | exact HB.out | apply bC | apply bA | apply bB | refine bD ?_ GE113.out) | exact HB.out))) : w.heap.size ≤ gb115)); have n5_ := Aside0.mk ((by rw [hg]; exact Nat.ne_of_lt (cD (g := gb113) (o := .cells #[.slice (some ad114) l0_0.length c0_0] 44 (0, 0)) (by (with_reducible repeat (first | refine bF ?_ _ | refine bG ?_ | refine bE ?_ _)); exact BK113.out)) : gb113 ≠ gb115)); have n6_ := Aside0.mk ((by rw [hg]; exact Nat.ne_of_gt (cD (g := gb113) (o := .cells #[.slice (some ad114) l0_0.length c0_0] 44 (0, 0)) (by (with_reducible repeat (first | refine bF ?_ _ | refine bG ?_ | refine bE ?_ _)); exact BK113.out)) : gb115 ≠ gb113)); clear BK113; clear HB; have BK113 := n0_; have HB := n1_; have BK115 := n2_; have GW115 := n3_; have GE115 := n4_; have NB113_115 := n5_; have NB115_113 := n6_; clear n0_ n1_ n2_ n3_ n4_ n5_ n6_; clear hb hbox hg; have hnb13 := NB115_113.out; have hnc13 := NB113_115.out; have hcz14_0 : w12.cell? ⟨gb115, 0, none⟩ = some (.int .i64 0) := (bH BK115.out 0).trans rfl; have hcz14_1 : w12.cell? ⟨gb115, 1, none⟩ = some (.bool false) := (bH BK115.out 1).trans rfl; have hfz14_0 := bJ BK115.out 0; have hfz14_1 := bJ BK115.out 1))
        go_ret
        exact ⟨by first | rfl | (simp [errW_none, errW_some] <;> rfl) | (simp [*, errW_none, errW_some] <;> rfl), by repeat (first | (with_reducible first | exact HB.out | apply bC | apply bA | apply bB | refine bD ?_ GE113.out | refine bD ?_ GE115.out) | exact HB.out)⟩
       ·rw [if_neg c11] at H
        have c11b0 : decide (((rd_T115 l0_0 x14_1).f0) < 0) = false := decide_eq_false c11
        clear c11
        by_cases c15 : ((rd_T115 l0_0 x14_1).f0) ≥ a1
        ·rw [if_pos c15] at H
         have c15b0 : decide (a1 ≤ ((rd_T115 l0_0 x14_1).f0)) = true := decide_eq_true c15
         clear c15
         obtain rfl := Option.some.inj H
         have p114 : 0 ≤ (x14_1 : Int) := of_decide_eq_true (by first | (with_reducible assumption) | assumption)
         have q114 : x14_1 < (l0_0.length : Int) := of_decide_eq_true (by first | (with_reducible assumption) | assumption)
         obtain ⟨ad114, e114, hx114_0, hx114_1⟩ := at_T115 HR0_0.out x14_1 p114 q114
         cases e114
         replace hx114_0 := (HB.out.cell (World.block_lt_of_cell? w _ hx114_0)).trans hx114_0
         replace hx114_1 := (HB.out.cell (World.block_lt_of_cell? w _ hx114_1)).trans hx114_1
         replace p114 := eq_true p114
         replace q114 := eq_true q114
         go_wp2_with (first | ((with_reducible refine bZ (N := 6) rfl ?_); refine bY ?hg (N := 6) ?hd (cs := #[.int .i64 0, .bool false]) (t := 115) ?hr ?_; (case hd => rfl); (case hg => rfl); (case hr => first | (go_simp; done) | (go_simp; rfl)); intro gb115 hg w16 hbox hb; have n0_ := Aside0.mk (bL (g := gb113) (o := .cells #[.slice (some ad114) l0_0.length c0_0] 44 (0, 0)) (by (with_reducible repeat (first | refine bF ?_ _ | refine bG ?_ | refine bE ?_ _)); exact BK113.out) hb); have n1_ := Aside0.mk (bM (by repeat (first | (with_reducible first | exact HB.out | apply bC | apply bA | apply bB | refine bD ?_ GE113.out) | exact HB.out)) hb); have n2_ := Aside0.mk (hbox); have n3_ := Aside0.mk ((by rw [hg]; exact (bK (by repeat (first | (with_reducible first | exact HB.out | apply bC | apply bA | apply bB | refine bD ?_ GE113.out) | exact HB.out))) : w.heap.size ≤ gb115)); have n4_ := Aside0.mk ((by rw [hg]; exact (bK (by repeat (first | (with_reducible first | exact HB.out | apply bC | apply bA | apply bB | refine bD ?_ GE113.out) | exact HB.out))) : w.heap.size ≤ gb115)); have n5_ := Aside0.mk ((by rw [hg]; exact Nat.ne_of_lt (cD (g := gb113) (o := .cells #[.slice (some ad114) l0_0.length c0_0] 44 (0, 0)) (by (with_reducible repeat (first | refine bF ?_ _ | refine bG ?_ | refine bE ?_ _)); exact BK113.out)) : gb113 ≠ gb115)); have n6_ := Aside0.mk ((by rw [hg]; exact Nat.ne_of_gt (cD (g := gb113) (o := .cells #[.slice (some ad114) l0_0.length c0_0] 44 (0, 0)) (by (with_reducible repeat (first | refine bF ?_ _ | refine bG ?_ | refine bE ?_ _)); exact BK113.out)) : gb115 ≠ gb113)); clear BK113; clear HB; have BK113 := n0_; have HB := n1_; have BK115 := n2_; have GW115 := n3_; have GE115 := n4_; have NB113_115 := n5_; have NB115_113 := n6_; clear n0_ n1_ n2_ n3_ n4_ n5_ n6_; clear hb hbox hg; have hnb17 := NB115_113.out; have hnc17 := NB113_115.out; have hcz18_0 : w16.cell? ⟨gb115, 0, none⟩ = some (.int .i64 0) := (bH BK115.out 0).trans rfl; have hcz18_1 : w16.cell? ⟨gb115, 1, none⟩ = some (.bool false) := (bH BK115.out 1).trans rfl; have hfz18_0 := bJ BK115.out 0; have hfz18_1 := bJ BK115.out 1))
         go_ret
         exact ⟨by first | rfl | (simp [errW_none, errW_some] <;> rfl) | (simp [*, errW_none, errW_some] <;> rfl), by repeat (first | (with_reducible first | exact HB.out | apply bC | apply bA | apply bB | refine bD ?_ GE113.out | refine bD ?_ GE115.out) | exact HB.out)⟩
        ·rw [if_neg c15] at H
         have c15b0 : decide (a1 ≤ ((rd_T115 l0_0 x14_1).f0)) = false := decide_eq_false c15
         clear c15
         have H' := Aside0.mk H
         clear H
         have p114 : 0 ≤ (x14_1 : Int) := of_decide_eq_true (by first | (with_reducible assumption) | assumption)
         have q114 : x14_1 < (l0_0.length : Int) := of_decide_eq_true (by first | (with_reducible assumption) | assumption)
         obtain ⟨ad114, e114, hx114_0, hx114_1⟩ := at_T115 HR0_0.out x14_1 p114 q114
         cases e114
         replace hx114_0 := (HB.out.cell (World.block_lt_of_cell? w _ hx114_0)).trans hx114_0
         replace hx114_1 := (HB.out.cell (World.block_lt_of_cell? w _ hx114_1)).trans hx114_1
         replace p114 := eq_true p114
         replace q114 := eq_true q114
         go_wp2_with (first | ((with_reducible refine bZ (N := 6) rfl ?_); refine bY ?hg (N := 6) ?hd (cs := #[.int .i64 0, .bool false]) (t := 115) ?hr ?_; (case hd => rfl); (case hg => rfl); (case hr => first | (go_simp; done) | (go_simp; rfl)); intro gb115 hg w19 hbox hb; have n0_ := Aside0.mk (bL (g := gb113) (o := .cells #[.slice (some ad114) l0_0.length c0_0] 44 (0, 0)) (by (with_reducible repeat (first | refine bF ?_ _ | refine bG ?_ | refine bE ?_ _)); exact BK113.out) hb); have n1_ := Aside0.mk (bM (by repeat (first | (with_reducible first | exact HB.out | apply bC | apply bA | apply bB | refine bD ?_ GE113.out) | exact HB.out)) hb); have n2_ := Aside0.mk (hbox); have n3_ := Aside0.mk ((by rw [hg]; exact (bK (by repeat (first | (with_reducible first | exact HB.out | apply bC | apply bA | apply bB | refine bD ?_ GE113.out) | exact HB.out))) : w.heap.size ≤ gb115)); have n4_ := Aside0.mk ((by rw [hg]; exact (bK (by repeat (first | (with_reducible first | exact HB.out | apply bC | apply bA | apply bB | refine bD ?_ GE113.out) | exact HB.out))) : w.heap.size ≤ gb115)); have n5_ := Aside0.mk ((by rw [hg]; exact Nat.ne_of_lt (cD (g := gb113) (o := .cells #[.slice (some ad114) l0_0.length c0_0] 44 (0, 0)) (by (with_reducible repeat (first | refine bF ?_ _ | refine bG ?_ | refine bE ?_ _)); exact BK113.out)) : gb113 ≠ gb115)); have n6_ := Aside0.mk ((by rw [hg]; exact Nat.ne_of_gt (cD (g := gb113) (o := .cells #[.slice (some ad114) l0_0.length c0_0] 44 (0, 0)) (by (with_reducible repeat (first | refine bF ?_ _ | refine bG ?_ | refine bE ?_ _)); exact BK113.out)) : gb115 ≠ gb113)); clear BK113; clear HB; have BK113 := n0_; have HB := n1_; have BK115 := n2_; have GW115 := n3_; have GE115 := n4_; have NB113_115 := n5_; have NB115_113 := n6_; clear n0_ n1_ n2_ n3_ n4_ n5_ n6_; clear hb hbox hg; have hnb20 := NB115_113.out; have hnc20 := NB113_115.out; have hcz21_0 : w19.cell? ⟨gb115, 0, none⟩ = some (.int .i64 0) := (bH BK115.out 0).trans rfl; have hcz21_1 : w19.cell? ⟨gb115, 1, none⟩ = some (.bool false) := (bH BK115.out 1).trans rfl; have hfz21_0 := bJ BK115.out 0; have hfz21_1 := bJ BK115.out 1))
         go_roundg k1
         case measure => have := HK1.out; omega
         case rel => exact ⟨(wrap64 (x14_1 + 1)), (by first | rfl | (simp; done) | (simp [*]; done)), H', ⟨by have := HK1.out; omega⟩, ⟨by (with_reducible repeat (first | refine bF ?_ _ | refine bG ?_ | refine bE ?_ _)); refine blk_far ?_ NB113_115.out _; (with_reducible repeat (first | refine bF ?_ _ | refine bG ?_ | refine bE ?_ _)); refine blk_far ?_ NB113_115.out _; (with_reducible repeat (first | refine bF ?_ _ | refine bG ?_ | refine bE ?_ _)); exact BK113.out⟩, ⟨by repeat (first | (with_reducible first | exact HB.out | apply bC | apply bA | apply bB | refine bD ?_ GE113.out | refine bD ?_ GE115.out) | exact HB.out)⟩⟩
      ·rw [if_neg c10] at H
       exact absurd H (by simp)
     ·rw [if_neg c9] at H
      exact absurd H (by simp)
    ·rw [if_neg c8] at H
     have c8b0 : decide (x14_1 < (l0_0.length : Int)) = false := decide_eq_false c8
     clear c8
     obtain rfl := Option.some.inj H
     go_wp2
     go_ret
     exact ⟨by first | rfl | (simp [errW_none, errW_some] <;> rfl) | (simp [*, errW_none, errW_some] <;> rfl), by repeat (first | (with_reducible first | exact HB.out | apply bC | apply bA | apply bB | refine bD ?_ GE113.out) | exact HB.out)⟩

end Go.Proofs.Ythhebinonpoddaa.GSigCalls
