/- Written for this claim by gp.py, a program of this session's, over the kit's print. Lean checks it. -/
import Derived.Test.YthhebinonpoddaaGStmtNeedsx0
import Derived.Test.YthhebinonpoddaaGStmtNeedsx2
import Derived.Test.YthhebinonpoddaaGStmtNeedsx5
import Derived.Test.YthhebinonpoddaaGStmtNeedsx6
import Derived.Test.YthhebinonpoddaaGStmtNeedsx8
import Derived.Test.YthhebinonpoddaaGStmtNeedsx14
namespace Go.Proofs.Ythhebinonpoddaa.GStmtNeeds
open Go.RowKit Go.Proofs.YthhebinonpoddaaW.PrintWords Go.Proofs.YthhebinonpoddaaW.PrintLast Go.Proofs.YthhebinonpoddaaW.PrintMore
attribute [local go_sem] max2_int min2_int max_two min_two max_three min_three max_four min_four   -- for this text's walks alone
set_option linter.unusedVariables false
set_option linter.unusedSimpArgs false

attribute [local go_sem high] eqA128
/-! ### easementref16_Same: function 38 -/
def easementref16_Same.l0 : Nat → List (S128) → List (S128) → Int → Option (Bool)
 | 0, _, _, _ => none
 | k + 1, x0, x1, x5 => if x5 < (x0.length : Int) then (if 0 ≤ x5 then (if x5 < (x1.length : Int) then (if (!(((rd_T128 x0 x5).f0) == ((rd_T128 x1 x5).f0)) || (!(((rd_T128 x0 x5).f1) == ((rd_T128 x1 x5).f1)) || (!(((rd_T128 x0 x5).f2) == ((rd_T128 x1 x5).f2)) || (!(((rd_T128 x0 x5).f3) == ((rd_T128 x1 x5).f3)) || (!(((rd_T128 x0 x5).f4) == ((rd_T128 x1 x5).f4))))))) = true then (some false) else (easementref16_Same.l0 k x0 x1 (wrap64 (x5 + 1)))) else (none)) else (none)) else (some true)
def easementref16_Same.f (k : Nat) (l0 : List (S128)) (l1 : List (S128)) : Option (Bool) := if (l0.length : Int) = (l1.length : Int) then (easementref16_Same.l0 k l0 l1 0) else (some false)
theorem easementref16_Same.mono_l : ∀ k, (∀ y0 y1 y2, LeO (easementref16_Same.l0 k y0 y1 y2) (easementref16_Same.l0 (k + 1) y0 y1 y2))
 | 0 => fun _ _ _ r h => by simp [easementref16_Same.l0] at h
 | k + 1 => by
  have ih0 := easementref16_Same.mono_l k
  ·intro y0 y1 y2
   unfold easementref16_Same.l0
   repeat' first
   | (with_reducible exact ih0 _ _ _)
   | (with_reducible exact LeO.refl _)
   | (with_reducible exact LeO.none _)
   | (with_reducible refine LeO.ite ?_ ?_)
   | (with_reducible refine LeO.bind ?_ (fun _ => ?_))
   | exact ih0 _ _ _
   | exact LeO.none _
   | refine LeO.ite ?_ ?_
   | refine LeO.bind ?_ (fun _ => ?_)
theorem easementref16_Same.mono : ∀ a0 a1 k, LeO (easementref16_Same.f k a0 a1) (easementref16_Same.f (k + 1) a0 a1) := by
 intro a0 a1 k
 have ih0 := easementref16_Same.mono_l k
 unfold easementref16_Same.f
 repeat' first
   | (with_reducible exact ih0 _ _ _)
   | (with_reducible exact LeO.refl _)
   | (with_reducible exact LeO.none _)
   | (with_reducible refine LeO.ite ?_ ?_)
   | (with_reducible refine LeO.bind ?_ (fun _ => ?_))
   | exact ih0 _ _ _
   | exact LeO.none _
   | refine LeO.ite ?_ ?_
   | refine LeO.bind ?_ (fun _ => ?_)
set_option maxHeartbeats 8000000 in
set_option maxRecDepth 100000 in
theorem easementref16_Same.calls (k : Nat) (A0 : Option Addr) (c0 : Nat) (l0 : List (S128)) (A1 : Option Addr) (c1 : Nat) (l1 : List (S128)) (r : Bool) (w : World) (hr0 : Kd.C k128 w A0 l0.length l0) (hc0 : l0.length ≤ c0) (hr1 : Kd.C k128 w A1 l1.length l1) (hc1 : l1.length ≤ c1) (h : easementref16_Same.f k l0 l1 = some r) :
  Calls Try.prog 38 #[.slice A0 l0.length c0, .slice A1 l1.length c1] w fun e w' => e = .returned (.bool r) ∧ Drawn0 w w' := by
 have hu128 := Try.underlying128
 have HR0 := Aside0.mk hr0
 have HC0 := Aside0.mk hc0
 clear hr0 hc0
 have HR1 := Aside0.mk hr1
 have HC1 := Aside0.mk hc1
 clear hr1 hc1
 have H : (if (l0.length : Int) = (l1.length : Int) then (easementref16_Same.l0 k l0 l1 0) else (some false)) = some r := h
 clear h
 by_cases c3 : (l0.length : Int) = (l1.length : Int)
 ·rw [if_pos c3] at H
  have c3b0 : ((l0.length : Int) == (l1.length : Int)) = true := beq_iff_eq.mpr c3
  have c3b1 : ((l0.length : Int) != (l1.length : Int)) = false := bne_eq_false_iff_eq.mpr c3
  have c3b2 : (l0.length == l1.length) = true := by first | simpa using c3 | (simp at c3 ⊢; omega)
  clear c3
  have H' := Aside0.mk H
  clear H
  go_enter Try.func38, Try.ntmps38
  go_wp2
  repeat (go_quiet (fail); try go_wp2)
  go_loopg [5] k (fun kq v5 w' => ∃ (x5_1 : Int), v5 = .int .i64 x5_1 ∧ Aside0 (easementref16_Same.l0 kq l0 l1 x5_1 = some r) ∧ Aside0 (kq ≤ k) ∧ Drawn0 w w')
  case atStart => exact ⟨(0), (by first | rfl | (simp; done) | (simp [*]; done)), H', ⟨Nat.le_refl _⟩, by repeat (first | exact Drawn0.refl _ | apply Drawn0.step)⟩
  case round =>
   clear H'
   try clear c1
   try clear p2
   try clear c3
   try clear c3b0
   try clear c3b1
   try clear c3b2
   obtain ⟨x5_1, rfl, HA, HK1, ⟨m1, rfl⟩⟩ := hrel
   cases gk with
   | zero => exact absurd HA.out (by simp [easementref16_Same.l0])
   | succ k1 =>
    have H := HA.out
    clear HA
    simp only [easementref16_Same.l0] at H
    by_cases c4 : x5_1 < (l0.length : Int)
    ·rw [if_pos c4] at H
     have c4b0 : decide (x5_1 < (l0.length : Int)) = true := decide_eq_true c4
     clear c4
     by_cases c5 : 0 ≤ x5_1
     ·rw [if_pos c5] at H
      have c5b0 : decide (0 ≤ x5_1) = true := decide_eq_true c5
      clear c5
      by_cases c6 : x5_1 < (l1.length : Int)
      ·rw [if_pos c6] at H
       have c6b0 : decide (x5_1 < (l1.length : Int)) = true := decide_eq_true c6
       clear c6
       by_cases c7 : (!(((rd_T128 l0 x5_1).f0) == ((rd_T128 l1 x5_1).f0)) || (!(((rd_T128 l0 x5_1).f1) == ((rd_T128 l1 x5_1).f1)) || (!(((rd_T128 l0 x5_1).f2) == ((rd_T128 l1 x5_1).f2)) || (!(((rd_T128 l0 x5_1).f3) == ((rd_T128 l1 x5_1).f3)) || (!(((rd_T128 l0 x5_1).f4) == ((rd_T128 l1 x5_1).f4))))))) = true
       ·rw [if_pos c7] at H
        have c7b0 : (!(((rd_T128 l0 x5_1).f0) == ((rd_T128 l1 x5_1).f0)) || (!(((rd_T128 l0 x5_1).f1) == ((rd_T128 l1 x5_1).f1)) || (!(((rd_T128 l0 x5_1).f2) == ((rd_T128 l1 x5_1).f2)) || (!(((rd_T128 l0 x5_1).f3) == ((rd_T128 l1 x5_1).f3)) || (!(((rd_T128 l0 x5_1).f4) == ((rd_T128 l1 x5_1).f4))))))) = true := c7
        clear c7
        obtain rfl := Option.some.inj H
        have p287 : 0 ≤ (x5_1 : Int) := of_decide_eq_true (by first | (with_reducible assumption) | assumption)
        have q287 : x5_1 < (l0.length : Int) := of_decide_eq_true (by first | (with_reducible assumption) | assumption)
        obtain ⟨ad287, e287, hx287_0, hx287_1, hx287_2, hx287_3, hx287_4⟩ := at_T128 HR0.out x5_1 p287 q287
        cases e287
        replace p287 := eq_true p287
        replace q287 := eq_true q287
        have p288 : 0 ≤ (x5_1 : Int) := of_decide_eq_true (by first | (with_reducible assumption) | assumption)
        have q288 : x5_1 < (l1.length : Int) := of_decide_eq_true (by first | (with_reducible assumption) | assumption)
        obtain ⟨ad288, e288, hx288_0, hx288_1, hx288_2, hx288_3, hx288_4⟩ := at_T128 HR1.out x5_1 p288 q288
        cases e288
        replace p288 := eq_true p288
        replace q288 := eq_true q288
        go_wp2
        repeat (go_quiet (fail); try go_wp2)
        go_ret
        exact ⟨by first | rfl | (simp; done) | (simp [*]; done), by repeat (first | exact Drawn0.refl _ | apply Drawn0.step)⟩
       ·rw [if_neg c7] at H
        have c7b0 : (!(((rd_T128 l0 x5_1).f0) == ((rd_T128 l1 x5_1).f0)) || (!(((rd_T128 l0 x5_1).f1) == ((rd_T128 l1 x5_1).f1)) || (!(((rd_T128 l0 x5_1).f2) == ((rd_T128 l1 x5_1).f2)) || (!(((rd_T128 l0 x5_1).f3) == ((rd_T128 l1 x5_1).f3)) || (!(((rd_T128 l0 x5_1).f4) == ((rd_T128 l1 x5_1).f4))))))) = false := by simpa using c7
        clear c7
        have H' := Aside0.mk H
        clear H
        have p287 : 0 ≤ (x5_1 : Int) := of_decide_eq_true (by first | (with_reducible assumption) | assumption)
        have q287 : x5_1 < (l0.length : Int) := of_decide_eq_true (by first | (with_reducible assumption) | assumption)
        obtain ⟨ad287, e287, hx287_0, hx287_1, hx287_2, hx287_3, hx287_4⟩ := at_T128 HR0.out x5_1 p287 q287
        cases e287
        replace p287 := eq_true p287
        replace q287 := eq_true q287
        have p288 : 0 ≤ (x5_1 : Int) := of_decide_eq_true (by first | (with_reducible assumption) | assumption)
        have q288 : x5_1 < (l1.length : Int) := of_decide_eq_true (by first | (with_reducible assumption) | assumption)
        obtain ⟨ad288, e288, hx288_0, hx288_1, hx288_2, hx288_3, hx288_4⟩ := at_T128 HR1.out x5_1 p288 q288
        cases e288
        replace p288 := eq_true p288
        replace q288 := eq_true q288
        go_wp2
        repeat (go_quiet (fail); try go_wp2)
        go_roundg k1
        case measure => have := HK1.out; omega
        case rel => exact ⟨(wrap64 (x5_1 + 1)), (by first | rfl | (simp; done) | (simp [*]; done)), H', ⟨by have := HK1.out; omega⟩, by repeat (first | exact Drawn0.refl _ | apply Drawn0.step)⟩
      ·rw [if_neg c6] at H
       exact absurd H (by simp)
     ·rw [if_neg c5] at H
      exact absurd H (by simp)
    ·rw [if_neg c4] at H
     have c4b0 : decide (x5_1 < (l0.length : Int)) = false := decide_eq_false c4
     clear c4
     obtain rfl := Option.some.inj H
     go_wp2
     repeat (go_quiet (fail); try go_wp2)
     go_ret
     exact ⟨by first | rfl | (simp; done) | (simp [*]; done), by repeat (first | exact Drawn0.refl _ | apply Drawn0.step)⟩
 ·rw [if_neg c3] at H
  have c3b0 : ((l0.length : Int) == (l1.length : Int)) = false := beq_eq_false_iff_ne.mpr c3
  have c3b1 : ((l0.length : Int) != (l1.length : Int)) = true := bne_iff_ne.mpr c3
  have c3b2 : (l0.length == l1.length) = false := by first | simpa using c3 | (simp at c3 ⊢; omega)
  obtain rfl := Option.some.inj H
  go_enter Try.func38, Try.ntmps38
  go_wp2
  repeat (go_quiet (fail); try go_wp2)
  go_ret
  exact ⟨by first | rfl | (simp; done) | (simp [*]; done), by repeat (first | exact Drawn0.refl _ | apply Drawn0.step)⟩

/-! ### easementlaw16_Doc: function 39 -/
def easementlaw16_Doc.l0 : Nat → List (S129) → List (S128) → Int → Option ((List (S128)))
 | 0, _, _, _ => none
 | k + 1, x0, x3, x4 => if x4 < (x0.length : Int) then (if 0 ≤ x4 then (if x3.length < 3518437208883 then (easementlaw16_Doc.l0 k x0 (x3 ++ [(⟨(rd_T129 x0 x4).f0, (rd_T129 x0 x4).f1, (rd_T129 x0 x4).f2, (rd_T129 x0 x4).f3, (rd_T129 x0 x4).f4⟩ : S128)]) (wrap64 (x4 + 1))) else (none)) else (none)) else (some x3)
def easementlaw16_Doc.f (k : Nat) (l0 : List (S129)) : Option ((List (S128))) := easementlaw16_Doc.l0 k l0 (([] : List (S128))) 0
theorem easementlaw16_Doc.mono_l : ∀ k, (∀ y0 y1 y2, LeO (easementlaw16_Doc.l0 k y0 y1 y2) (easementlaw16_Doc.l0 (k + 1) y0 y1 y2))
 | 0 => fun _ _ _ r h => by simp [easementlaw16_Doc.l0] at h
 | k + 1 => by
  have ih0 := easementlaw16_Doc.mono_l k
  ·intro y0 y1 y2
   unfold easementlaw16_Doc.l0
   repeat' first
   | (with_reducible exact ih0 _ _ _)
   | (with_reducible exact LeO.refl _)
   | (with_reducible exact LeO.none _)
   | (with_reducible refine LeO.ite ?_ ?_)
   | (with_reducible refine LeO.bind ?_ (fun _ => ?_))
   | exact ih0 _ _ _
   | exact LeO.none _
   | refine LeO.ite ?_ ?_
   | refine LeO.bind ?_ (fun _ => ?_)
theorem easementlaw16_Doc.mono : ∀ a0 k, LeO (easementlaw16_Doc.f k a0) (easementlaw16_Doc.f (k + 1) a0) := by
 intro a0 k
 have ih0 := easementlaw16_Doc.mono_l k
 unfold easementlaw16_Doc.f
 repeat' first
   | (with_reducible exact ih0 _ _ _)
   | (with_reducible exact LeO.refl _)
   | (with_reducible exact LeO.none _)
   | (with_reducible refine LeO.ite ?_ ?_)
   | (with_reducible refine LeO.bind ?_ (fun _ => ?_))
   | exact ih0 _ _ _
   | exact LeO.none _
   | refine LeO.ite ?_ ?_
   | refine LeO.bind ?_ (fun _ => ?_)
def easementlaw16_Doc.T5 : Bool × List (List Nat × List Nat) := (true, [([], []), ([], []), ([], []), ([1, 2], [1, 2]), ([3], [3]), ([4], [4]), ([], []), ([], []), ([6, 7], [6, 7]), ([8], [8]), ([9], [9]), ([], []), ([], []), ([11, 12], [11, 12]), ([13], [13]), ([14], [14]), ([], []), ([], []), ([16, 17], [16, 17]), ([18], [18]), ([19], [19]), ([], []), ([], []), ([21, 22], [21, 22]), ([23], [23]), ([24], [24]), ([5, 10, 15, 20, 25], [5, 10, 15, 20, 25]), ([26], [26]), ([0, 27], [0, 27]), ([28, 28, 0, 1, 2, 3, 4, 5, 6, 7, 8, 9, 10, 11, 12, 13, 14, 15, 16, 17, 18, 19, 20, 21, 22, 23, 24, 25, 26, 27, 28], [0, 28])])
def easementlaw16_Doc.B5 : List Nat := [0, 0, 0, 6, 14, 30, 0, 0, 192, 448, 960, 0, 0, 6144, 14336, 30720, 0, 0, 196608, 458752, 983040, 0, 0, 6291456, 14680064, 31457280, 67108862, 134217726, 268435455, 536870911]
theorem easementlaw16_Doc.tab5 : rtab .any (opsOf Try.f39 5) = easementlaw16_Doc.T5 := by kernel_rfl
theorem easementlaw16_Doc.bits5 : waitsOk easementlaw16_Doc.T5.2 easementlaw16_Doc.B5 = true := by kernel_rfl
set_option maxHeartbeats 8000000 in
set_option maxRecDepth 100000 in
theorem easementlaw16_Doc.calls (k : Nat) (A0 : Option Addr) (c0 : Nat) (l0 : List (S129)) (r : List (S128)) (w : World) (hr0 : Kd.C k129 w A0 l0.length l0) (hc0 : l0.length ≤ c0) (h : easementlaw16_Doc.f k l0 = some r) :
  Calls Try.prog 39 #[.slice A0 l0.length c0] w fun e w' => ∃ v0_ : Value, e = .returned (v0_) ∧ Kd.R k128 128 w' w.heap.size (fun _ => True) v0_ r ∧ Below w.heap.size w w' := by
 have hu128 := Try.underlying128
 have HR0 := Aside0.mk hr0
 have HC0 := Aside0.mk hc0
 clear hr0 hc0
 have HB := Aside0.mk (Below.refl w.heap.size w)
 have H : (easementlaw16_Doc.l0 k l0 (([] : List (S128))) 0) = some r := h
 clear h
 obtain ⟨y289, hy289⟩ : ∃ y_ : List (S128), y_ = (([] : List (S128))) := ⟨_, rfl⟩
 replace H : (easementlaw16_Doc.l0 k l0 y289 0) = some r := by first | (rw [hy289]; with_reducible exact H) | (have H2_ := (Option.bind_some _ _).symm.trans H; rw [hy289]; with_reducible exact H2_) | (have H2_ := (Option.bind_some _ _).symm.trans H; with_reducible exact H2_) | with_reducible exact H | (rw [hy289]; exact H) | exact H
 have Ny289 := Aside0.mk hy289
 clear hy289
 have H' := Aside0.mk H
 clear H
 go_enter Try.func39, Try.ntmps39
 go_wp2_with (first | ((with_reducible refine bT (N := 5) rfl ?_); refine Kd.R_lit k128 _ 128 ?hg (N := 5) ?hd (xs := ([] : List (S128))) (inner := []) (ok := fun _ => True) (okp := fun _ => True) ?hr ?hp (fun _ hk => hk) trivial (Below.refl _ _) (Nat.le_refl _) (by simp) ?_; (case hd => rfl); (case hg => rfl); (case hr => first | (go_simp; done) | (go_simp; rfl)); (case hp => exact (Reps.none _ _)); intro v290 w2 ho3 hb hg_ hnew_; clear hg_ hnew_; (first | rw [← Ny289.out] at ho3 | (simp only [Int.reduceToNat] at ho3; rw [← Ny289.out] at ho3)); have n0_ := Aside0.mk (Kd.R_lower ho3 (bK (by repeat (first | (with_reducible first | exact HB.out | apply bE | apply bA | apply bD) | exact HB.out)))); have n1_ := Aside0.mk (bP (by repeat (first | (with_reducible first | exact HB.out | apply bE | apply bA | apply bD) | exact HB.out)) hb); clear HB; have HO291 := n0_; have HB := n1_; clear n0_ n1_; clear hb ho3))
 go_loopg [3, 4] k (fun kq v3 v4 w' => ∃ (x3_1 : List (S128)) (x4_1 : Int), v4 = .int .i64 x4_1 ∧ Aside0 (easementlaw16_Doc.l0 kq l0 x3_1 x4_1 = some r) ∧ Aside0 (kq ≤ k) ∧ Aside0 (Kd.R k128 128 w' w.heap.size (fun _ => True) v3 x3_1) ∧ Aside0 (Below w.heap.size w w'))
 case atStart => exact ⟨(y289), (0), (by first | rfl | (simp; done) | (simp [*]; done)), H', ⟨Nat.le_refl _⟩, ⟨by (with_reducible repeat (first | apply Kd.R_alloc | apply Kd.R_drewN | apply Kd.R_drew)); exact HO291.out⟩, ⟨by repeat (first | (with_reducible first | exact HB.out | apply bE | apply bA | apply bD) | exact HB.out)⟩⟩
 case round =>
  clear H'
  try clear p2
  try clear c3
  obtain ⟨x3_1, x4_1, rfl, HA, HK1, HO_3, HB⟩ := hrel
  cases gk with
  | zero => exact absurd HA.out (by simp [easementlaw16_Doc.l0])
  | succ k1 =>
   have H := HA.out
   clear HA
   simp only [easementlaw16_Doc.l0] at H
   by_cases c4 : x4_1 < (l0.length : Int)
   ·rw [if_pos c4] at H
    have c4b0 : decide (x4_1 < (l0.length : Int)) = true := decide_eq_true c4
    clear c4
    by_cases c5 : 0 ≤ x4_1
    ·rw [if_pos c5] at H
     have c5b0 : decide (0 ≤ x4_1) = true := decide_eq_true c5
     clear c5
     by_cases c6 : x3_1.length < 3518437208883
     ·rw [if_pos c6] at H
      have LMc6 := Aside0.mk c6
      clear c6
      obtain ⟨y297, hy297⟩ : ∃ y_ : List (S128), y_ = (x3_1 ++ [(⟨(rd_T129 l0 x4_1).f0, (rd_T129 l0 x4_1).f1, (rd_T129 l0 x4_1).f2, (rd_T129 l0 x4_1).f3, (rd_T129 l0 x4_1).f4⟩ : S128)]) := ⟨_, rfl⟩
      replace H : (easementlaw16_Doc.l0 k1 l0 y297 (wrap64 (x4_1 + 1))) = some r := by first | (rw [hy297]; with_reducible exact H) | (have H2_ := (Option.bind_some _ _).symm.trans H; rw [hy297]; with_reducible exact H2_) | (have H2_ := (Option.bind_some _ _).symm.trans H; with_reducible exact H2_) | with_reducible exact H | (rw [hy297]; exact H) | exact H
      have Ny297 := Aside0.mk hy297
      clear hy297
      have H' := Aside0.mk H
      clear H
      try go_wp2
      have n0_ := Aside0.mk (Kd.R_drew HO_3.out)
      have n1_ := Aside0.mk (bD HB.out)
      clear HO_3
      clear HB
      have HO_3 := n0_
      have HB := n1_
      clear n0_ n1_
      have p292 : 0 ≤ (x4_1 : Int) := of_decide_eq_true (by first | (with_reducible assumption) | assumption)
      have q292 : x4_1 < (l0.length : Int) := of_decide_eq_true (by first | (with_reducible assumption) | assumption)
      obtain ⟨ad292, e292, hx292_0, hx292_1, hx292_2, hx292_3, hx292_4⟩ := at_T129 HR0.out x4_1 p292 q292
      have hw292_4 := hx292_4
      have hw292_3 := hx292_3
      have hw292_2 := hx292_2
      have hw292_1 := hx292_1
      have hw292_0 := hx292_0
      cases e292
      replace hx292_0 := (HB.out.cell (World.block_lt_of_cell? w _ hx292_0)).trans hx292_0
      replace hx292_1 := (HB.out.cell (World.block_lt_of_cell? w _ hx292_1)).trans hx292_1
      replace hx292_2 := (HB.out.cell (World.block_lt_of_cell? w _ hx292_2)).trans hx292_2
      replace hx292_3 := (HB.out.cell (World.block_lt_of_cell? w _ hx292_3)).trans hx292_3
      replace hx292_4 := (HB.out.cell (World.block_lt_of_cell? w _ hx292_4)).trans hx292_4
      replace p292 := eq_true p292
      replace q292 := eq_true q292
      have p293 : 0 ≤ (x4_1 : Int) := of_decide_eq_true (by first | (with_reducible assumption) | assumption)
      have q293 : x4_1 < (l0.length : Int) := of_decide_eq_true (by first | (with_reducible assumption) | assumption)
      obtain ⟨ad293, e293, hx293_0, hx293_1, hx293_2, hx293_3, hx293_4⟩ := at_T129 HR0.out x4_1 p293 q293
      have hw293_4 := hx293_4
      have hw293_3 := hx293_3
      have hw293_2 := hx293_2
      have hw293_1 := hx293_1
      have hw293_0 := hx293_0
      obtain rfl : ad292 = ad293 := (by injection e293)
      replace hx293_0 := (HB.out.cell (World.block_lt_of_cell? w _ hx293_0)).trans hx293_0
      replace hx293_1 := (HB.out.cell (World.block_lt_of_cell? w _ hx293_1)).trans hx293_1
      replace hx293_2 := (HB.out.cell (World.block_lt_of_cell? w _ hx293_2)).trans hx293_2
      replace hx293_3 := (HB.out.cell (World.block_lt_of_cell? w _ hx293_3)).trans hx293_3
      replace hx293_4 := (HB.out.cell (World.block_lt_of_cell? w _ hx293_4)).trans hx293_4
      replace p293 := eq_true p293
      replace q293 := eq_true q293
      have p294 : 0 ≤ (x4_1 : Int) := of_decide_eq_true (by first | (with_reducible assumption) | assumption)
      have q294 : x4_1 < (l0.length : Int) := of_decide_eq_true (by first | (with_reducible assumption) | assumption)
      obtain ⟨ad294, e294, hx294_0, hx294_1, hx294_2, hx294_3, hx294_4⟩ := at_T129 HR0.out x4_1 p294 q294
      have hw294_4 := hx294_4
      have hw294_3 := hx294_3
      have hw294_2 := hx294_2
      have hw294_1 := hx294_1
      have hw294_0 := hx294_0
      obtain rfl : ad292 = ad294 := (by injection e294)
      replace hx294_0 := (HB.out.cell (World.block_lt_of_cell? w _ hx294_0)).trans hx294_0
      replace hx294_1 := (HB.out.cell (World.block_lt_of_cell? w _ hx294_1)).trans hx294_1
      replace hx294_2 := (HB.out.cell (World.block_lt_of_cell? w _ hx294_2)).trans hx294_2
      replace hx294_3 := (HB.out.cell (World.block_lt_of_cell? w _ hx294_3)).trans hx294_3
      replace hx294_4 := (HB.out.cell (World.block_lt_of_cell? w _ hx294_4)).trans hx294_4
      replace p294 := eq_true p294
      replace q294 := eq_true q294
      have p295 : 0 ≤ (x4_1 : Int) := of_decide_eq_true (by first | (with_reducible assumption) | assumption)
      have q295 : x4_1 < (l0.length : Int) := of_decide_eq_true (by first | (with_reducible assumption) | assumption)
      obtain ⟨ad295, e295, hx295_0, hx295_1, hx295_2, hx295_3, hx295_4⟩ := at_T129 HR0.out x4_1 p295 q295
      have hw295_4 := hx295_4
      have hw295_3 := hx295_3
      have hw295_2 := hx295_2
      have hw295_1 := hx295_1
      have hw295_0 := hx295_0
      obtain rfl : ad292 = ad295 := (by injection e295)
      replace hx295_0 := (HB.out.cell (World.block_lt_of_cell? w _ hx295_0)).trans hx295_0
      replace hx295_1 := (HB.out.cell (World.block_lt_of_cell? w _ hx295_1)).trans hx295_1
      replace hx295_2 := (HB.out.cell (World.block_lt_of_cell? w _ hx295_2)).trans hx295_2
      replace hx295_3 := (HB.out.cell (World.block_lt_of_cell? w _ hx295_3)).trans hx295_3
      replace hx295_4 := (HB.out.cell (World.block_lt_of_cell? w _ hx295_4)).trans hx295_4
      replace p295 := eq_true p295
      replace q295 := eq_true q295
      have p296 : 0 ≤ (x4_1 : Int) := of_decide_eq_true (by first | (with_reducible assumption) | assumption)
      have q296 : x4_1 < (l0.length : Int) := of_decide_eq_true (by first | (with_reducible assumption) | assumption)
      obtain ⟨ad296, e296, hx296_0, hx296_1, hx296_2, hx296_3, hx296_4⟩ := at_T129 HR0.out x4_1 p296 q296
      have hw296_4 := hx296_4
      have hw296_3 := hx296_3
      have hw296_2 := hx296_2
      have hw296_1 := hx296_1
      have hw296_0 := hx296_0
      obtain rfl : ad292 = ad296 := (by injection e296)
      replace hx296_0 := (HB.out.cell (World.block_lt_of_cell? w _ hx296_0)).trans hx296_0
      replace hx296_1 := (HB.out.cell (World.block_lt_of_cell? w _ hx296_1)).trans hx296_1
      replace hx296_2 := (HB.out.cell (World.block_lt_of_cell? w _ hx296_2)).trans hx296_2
      replace hx296_3 := (HB.out.cell (World.block_lt_of_cell? w _ hx296_3)).trans hx296_3
      replace hx296_4 := (HB.out.cell (World.block_lt_of_cell? w _ hx296_4)).trans hx296_4
      replace p296 := eq_true p296
      replace q296 := eq_true q296
      refine start_ (n := 30) (S := fun w' => w'.cell? (ad292.add ((x4_1).toNat * 5)) = some (.int .i64 ((rd_T129 l0 x4_1).f0)) ∧ w'.cell? ⟨(ad292.add ((x4_1).toNat * 5)).block, (ad292.add ((x4_1).toNat * 5)).off + 1, none⟩ = some (.int .i64 ((rd_T129 l0 x4_1).f1)) ∧ w'.cell? ⟨(ad292.add ((x4_1).toNat * 5)).block, (ad292.add ((x4_1).toNat * 5)).off + 2, none⟩ = some (.int .i64 ((rd_T129 l0 x4_1).f2)) ∧ w'.cell? ⟨(ad292.add ((x4_1).toNat * 5)).block, (ad292.add ((x4_1).toNat * 5)).off + 3, none⟩ = some (.int .i64 ((rd_T129 l0 x4_1).f3)) ∧ w'.cell? ⟨(ad292.add ((x4_1).toNat * 5)).block, (ad292.add ((x4_1).toNat * 5)).off + 4, none⟩ = some (.bool ((rd_T129 l0 x4_1).f4)) ∧ w'.cell? (ad292.add ((x4_1).toNat * 5)) = some (.int .i64 ((rd_T129 l0 x4_1).f0)) ∧ w'.cell? ⟨(ad292.add ((x4_1).toNat * 5)).block, (ad292.add ((x4_1).toNat * 5)).off + 1, none⟩ = some (.int .i64 ((rd_T129 l0 x4_1).f1)) ∧ w'.cell? ⟨(ad292.add ((x4_1).toNat * 5)).block, (ad292.add ((x4_1).toNat * 5)).off + 2, none⟩ = some (.int .i64 ((rd_T129 l0 x4_1).f2)) ∧ w'.cell? ⟨(ad292.add ((x4_1).toNat * 5)).block, (ad292.add ((x4_1).toNat * 5)).off + 3, none⟩ = some (.int .i64 ((rd_T129 l0 x4_1).f3)) ∧ w'.cell? ⟨(ad292.add ((x4_1).toNat * 5)).block, (ad292.add ((x4_1).toNat * 5)).off + 4, none⟩ = some (.bool ((rd_T129 l0 x4_1).f4)) ∧ w'.cell? (ad292.add ((x4_1).toNat * 5)) = some (.int .i64 ((rd_T129 l0 x4_1).f0)) ∧ w'.cell? ⟨(ad292.add ((x4_1).toNat * 5)).block, (ad292.add ((x4_1).toNat * 5)).off + 1, none⟩ = some (.int .i64 ((rd_T129 l0 x4_1).f1)) ∧ w'.cell? ⟨(ad292.add ((x4_1).toNat * 5)).block, (ad292.add ((x4_1).toNat * 5)).off + 2, none⟩ = some (.int .i64 ((rd_T129 l0 x4_1).f2)) ∧ w'.cell? ⟨(ad292.add ((x4_1).toNat * 5)).block, (ad292.add ((x4_1).toNat * 5)).off + 3, none⟩ = some (.int .i64 ((rd_T129 l0 x4_1).f3)) ∧ w'.cell? ⟨(ad292.add ((x4_1).toNat * 5)).block, (ad292.add ((x4_1).toNat * 5)).off + 4, none⟩ = some (.bool ((rd_T129 l0 x4_1).f4)) ∧ w'.cell? (ad292.add ((x4_1).toNat * 5)) = some (.int .i64 ((rd_T129 l0 x4_1).f0)) ∧ w'.cell? ⟨(ad292.add ((x4_1).toNat * 5)).block, (ad292.add ((x4_1).toNat * 5)).off + 1, none⟩ = some (.int .i64 ((rd_T129 l0 x4_1).f1)) ∧ w'.cell? ⟨(ad292.add ((x4_1).toNat * 5)).block, (ad292.add ((x4_1).toNat * 5)).off + 2, none⟩ = some (.int .i64 ((rd_T129 l0 x4_1).f2)) ∧ w'.cell? ⟨(ad292.add ((x4_1).toNat * 5)).block, (ad292.add ((x4_1).toNat * 5)).off + 3, none⟩ = some (.int .i64 ((rd_T129 l0 x4_1).f3)) ∧ w'.cell? ⟨(ad292.add ((x4_1).toNat * 5)).block, (ad292.add ((x4_1).toNat * 5)).off + 4, none⟩ = some (.bool ((rd_T129 l0 x4_1).f4)) ∧ w'.cell? (ad292.add ((x4_1).toNat * 5)) = some (.int .i64 ((rd_T129 l0 x4_1).f0)) ∧ w'.cell? ⟨(ad292.add ((x4_1).toNat * 5)).block, (ad292.add ((x4_1).toNat * 5)).off + 1, none⟩ = some (.int .i64 ((rd_T129 l0 x4_1).f1)) ∧ w'.cell? ⟨(ad292.add ((x4_1).toNat * 5)).block, (ad292.add ((x4_1).toNat * 5)).off + 2, none⟩ = some (.int .i64 ((rd_T129 l0 x4_1).f2)) ∧ w'.cell? ⟨(ad292.add ((x4_1).toNat * 5)).block, (ad292.add ((x4_1).toNat * 5)).off + 3, none⟩ = some (.int .i64 ((rd_T129 l0 x4_1).f3)) ∧ w'.cell? ⟨(ad292.add ((x4_1).toNat * 5)).block, (ad292.add ((x4_1).toNat * 5)).off + 4, none⟩ = some (.bool ((rd_T129 l0 x4_1).f4))) (ds := []) #[false, false, false, false, false, false, false, false, false, false, false, false, false, false, false, false, false, false, false, false, false, false, false, false, false, false, false, false, false, false] (by kernel_rfl) rfl rfl ⟨((HB.out.cell (World.block_lt_of_cell? w _ hw292_0)).trans hw292_0), ((HB.out.cell (World.block_lt_of_cell? w _ hw292_1)).trans hw292_1), ((HB.out.cell (World.block_lt_of_cell? w _ hw292_2)).trans hw292_2), ((HB.out.cell (World.block_lt_of_cell? w _ hw292_3)).trans hw292_3), ((HB.out.cell (World.block_lt_of_cell? w _ hw292_4)).trans hw292_4), ((HB.out.cell (World.block_lt_of_cell? w _ hw293_0)).trans hw293_0), ((HB.out.cell (World.block_lt_of_cell? w _ hw293_1)).trans hw293_1), ((HB.out.cell (World.block_lt_of_cell? w _ hw293_2)).trans hw293_2), ((HB.out.cell (World.block_lt_of_cell? w _ hw293_3)).trans hw293_3), ((HB.out.cell (World.block_lt_of_cell? w _ hw293_4)).trans hw293_4), ((HB.out.cell (World.block_lt_of_cell? w _ hw294_0)).trans hw294_0), ((HB.out.cell (World.block_lt_of_cell? w _ hw294_1)).trans hw294_1), ((HB.out.cell (World.block_lt_of_cell? w _ hw294_2)).trans hw294_2), ((HB.out.cell (World.block_lt_of_cell? w _ hw294_3)).trans hw294_3), ((HB.out.cell (World.block_lt_of_cell? w _ hw294_4)).trans hw294_4), ((HB.out.cell (World.block_lt_of_cell? w _ hw295_0)).trans hw295_0), ((HB.out.cell (World.block_lt_of_cell? w _ hw295_1)).trans hw295_1), ((HB.out.cell (World.block_lt_of_cell? w _ hw295_2)).trans hw295_2), ((HB.out.cell (World.block_lt_of_cell? w _ hw295_3)).trans hw295_3), ((HB.out.cell (World.block_lt_of_cell? w _ hw295_4)).trans hw295_4), ((HB.out.cell (World.block_lt_of_cell? w _ hw296_0)).trans hw296_0), ((HB.out.cell (World.block_lt_of_cell? w _ hw296_1)).trans hw296_1), ((HB.out.cell (World.block_lt_of_cell? w _ hw296_2)).trans hw296_2), ((HB.out.cell (World.block_lt_of_cell? w _ hw296_3)).trans hw296_3), ((HB.out.cell (World.block_lt_of_cell? w _ hw296_4)).trans hw296_4)⟩ (fun hHeld => ?_); refine with_tabW easementlaw16_Doc.tab5 easementlaw16_Doc.bits5 (fun HT_ HW_ => ?_)
      generalize wr.drew = w7 at HO_3 HB hx292_0 hx292_1 hx292_2 hx292_3 hx292_4 hx293_0 hx293_1 hx293_2 hx293_3 hx293_4 hx294_0 hx294_1 hx294_2 hx294_3 hx294_4 hx295_0 hx295_1 hx295_2 hx295_3 hx295_4 hx296_0 hx296_1 hx296_2 hx296_3 hx296_4 hHeld ⊢
      refine bR (i := 0) (N := some 12) (v := ?_) (a' := ?_) #[true, false, false, false, false, false, false, false, false, false, false, false, false, false, false, false, false, false, false, false, false, false, false, false, false, false, false, false, false, false] rfl rfl (bQ HT_.out (by kernel_rfl)) (fun _ _ _ h => h) (Or.inl ⟨by rfl, ?_⟩) ?_ ?_
      rotate_left
      ·intro w'
       go_simp
       with_reducible rfl
      rotate_left
      ·simp only [Act.put, sZ1, sZ2, sZ3, bL, bM]
       rfl
      refine bR (i := 1) (N := some 13) (v := ?_) (a' := ?_) #[true, true, false, false, false, false, false, false, false, false, false, false, false, false, false, false, false, false, false, false, false, false, false, false, false, false, false, false, false, false] rfl rfl (bQ HT_.out (by kernel_rfl)) (fun _ _ _ h => h) (Or.inl ⟨by rfl, ?_⟩) ?_ ?_
      rotate_left
      ·intro w'
       go_simp
       with_reducible rfl
      rotate_left
      ·simp only [Act.put, sZ1, sZ2, sZ3, bL, bM]
       rfl
      refine bR (i := 2) (N := some 14) (v := ?_) (a' := ?_) #[true, true, true, false, false, false, false, false, false, false, false, false, false, false, false, false, false, false, false, false, false, false, false, false, false, false, false, false, false, false] rfl rfl (bQ HT_.out (by kernel_rfl)) (fun _ _ _ h => h) (Or.inl ⟨by rfl, ?_⟩) ?_ ?_
      rotate_left
      ·intro w'
       go_simp
       with_reducible rfl
      rotate_left
      ·simp only [Act.put, sZ1, sZ2, sZ3, bL, bM]
       rfl
      refine bR (i := 3) (N := some 15) (v := ?_) (a' := ?_) #[true, true, true, true, false, false, false, false, false, false, false, false, false, false, false, false, false, false, false, false, false, false, false, false, false, false, false, false, false, false] rfl rfl (bQ HT_.out (by kernel_rfl)) (fun _ _ _ h => h) (Or.inl ⟨by rfl, ?_⟩) ?_ ?_
      rotate_left
      ·intro w'
       go_simp
       with_reducible rfl
      rotate_left
      ·simp only [Act.put, sZ1, sZ2, sZ3, bL, bM]
       rfl
      refine bR (i := 4) (N := some 16) (v := ?_) (a' := ?_) #[true, true, true, true, true, false, false, false, false, false, false, false, false, false, false, false, false, false, false, false, false, false, false, false, false, false, false, false, false, false] rfl rfl (bQ HT_.out (by kernel_rfl)) (fun _ _ _ h => h) (Or.inl ⟨by rfl, ?_⟩) ?_ ?_
      rotate_left
      ·intro w'
       go_simp
       with_reducible rfl
      rotate_left
      ·simp only [Act.put, sZ1, sZ2, sZ3, bL, bM]
       rfl
      refine bR (i := 6) (N := some 18) (v := ?_) (a' := ?_) #[true, true, true, true, true, false, true, false, false, false, false, false, false, false, false, false, false, false, false, false, false, false, false, false, false, false, false, false, false, false] rfl rfl (bQ HT_.out (by kernel_rfl)) (fun _ _ _ h => h) (Or.inl ⟨by rfl, ?_⟩) ?_ ?_
      rotate_left
      ·intro w'
       go_simp
       with_reducible rfl
      rotate_left
      ·simp only [Act.put, sZ1, sZ2, sZ3, bL, bM]
       rfl
      refine bR (i := 7) (N := some 19) (v := ?_) (a' := ?_) #[true, true, true, true, true, false, true, true, false, false, false, false, false, false, false, false, false, false, false, false, false, false, false, false, false, false, false, false, false, false] rfl rfl (bQ HT_.out (by kernel_rfl)) (fun _ _ _ h => h) (Or.inl ⟨by rfl, ?_⟩) ?_ ?_
      rotate_left
      ·intro w'
       go_simp
       with_reducible rfl
      rotate_left
      ·simp only [Act.put, sZ1, sZ2, sZ3, bL, bM]
       rfl
      refine bR (i := 8) (N := some 20) (v := ?_) (a' := ?_) #[true, true, true, true, true, false, true, true, true, false, false, false, false, false, false, false, false, false, false, false, false, false, false, false, false, false, false, false, false, false] rfl rfl (bQ HT_.out (by kernel_rfl)) (fun _ _ _ h => h) (Or.inl ⟨by rfl, ?_⟩) ?_ ?_
      rotate_left
      ·intro w'
       go_simp
       with_reducible rfl
      rotate_left
      ·simp only [Act.put, sZ1, sZ2, sZ3, bL, bM]
       rfl
      refine bR (i := 9) (N := some 21) (v := ?_) (a' := ?_) #[true, true, true, true, true, false, true, true, true, true, false, false, false, false, false, false, false, false, false, false, false, false, false, false, false, false, false, false, false, false] rfl rfl (bQ HT_.out (by kernel_rfl)) (fun _ _ _ h => h) (Or.inl ⟨by rfl, ?_⟩) ?_ ?_
      rotate_left
      ·intro w'
       go_simp
       with_reducible rfl
      rotate_left
      ·simp only [Act.put, sZ1, sZ2, sZ3, bL, bM]
       rfl
      refine bR (i := 11) (N := some 23) (v := ?_) (a' := ?_) #[true, true, true, true, true, false, true, true, true, true, false, true, false, false, false, false, false, false, false, false, false, false, false, false, false, false, false, false, false, false] rfl rfl (bQ HT_.out (by kernel_rfl)) (fun _ _ _ h => h) (Or.inl ⟨by rfl, ?_⟩) ?_ ?_
      rotate_left
      ·intro w'
       go_simp
       with_reducible rfl
      rotate_left
      ·simp only [Act.put, sZ1, sZ2, sZ3, bL, bM]
       rfl
      refine bR (i := 12) (N := some 24) (v := ?_) (a' := ?_) #[true, true, true, true, true, false, true, true, true, true, false, true, true, false, false, false, false, false, false, false, false, false, false, false, false, false, false, false, false, false] rfl rfl (bQ HT_.out (by kernel_rfl)) (fun _ _ _ h => h) (Or.inl ⟨by rfl, ?_⟩) ?_ ?_
      rotate_left
      ·intro w'
       go_simp
       with_reducible rfl
      rotate_left
      ·simp only [Act.put, sZ1, sZ2, sZ3, bL, bM]
       rfl
      refine bR (i := 13) (N := some 25) (v := ?_) (a' := ?_) #[true, true, true, true, true, false, true, true, true, true, false, true, true, true, false, false, false, false, false, false, false, false, false, false, false, false, false, false, false, false] rfl rfl (bQ HT_.out (by kernel_rfl)) (fun _ _ _ h => h) (Or.inl ⟨by rfl, ?_⟩) ?_ ?_
      rotate_left
      ·intro w'
       go_simp
       with_reducible rfl
      rotate_left
      ·simp only [Act.put, sZ1, sZ2, sZ3, bL, bM]
       rfl
      refine bR (i := 14) (N := some 26) (v := ?_) (a' := ?_) #[true, true, true, true, true, false, true, true, true, true, false, true, true, true, true, false, false, false, false, false, false, false, false, false, false, false, false, false, false, false] rfl rfl (bQ HT_.out (by kernel_rfl)) (fun _ _ _ h => h) (Or.inl ⟨by rfl, ?_⟩) ?_ ?_
      rotate_left
      ·intro w'
       go_simp
       with_reducible rfl
      rotate_left
      ·simp only [Act.put, sZ1, sZ2, sZ3, bL, bM]
       rfl
      refine bR (i := 16) (N := some 28) (v := ?_) (a' := ?_) #[true, true, true, true, true, false, true, true, true, true, false, true, true, true, true, false, true, false, false, false, false, false, false, false, false, false, false, false, false, false] rfl rfl (bQ HT_.out (by kernel_rfl)) (fun _ _ _ h => h) (Or.inl ⟨by rfl, ?_⟩) ?_ ?_
      rotate_left
      ·intro w'
       go_simp
       with_reducible rfl
      rotate_left
      ·simp only [Act.put, sZ1, sZ2, sZ3, bL, bM]
       rfl
      refine bR (i := 17) (N := some 29) (v := ?_) (a' := ?_) #[true, true, true, true, true, false, true, true, true, true, false, true, true, true, true, false, true, true, false, false, false, false, false, false, false, false, false, false, false, false] rfl rfl (bQ HT_.out (by kernel_rfl)) (fun _ _ _ h => h) (Or.inl ⟨by rfl, ?_⟩) ?_ ?_
      rotate_left
      ·intro w'
       go_simp
       with_reducible rfl
      rotate_left
      ·simp only [Act.put, sZ1, sZ2, sZ3, bL, bM]
       rfl
      refine bR (i := 18) (N := some 30) (v := ?_) (a' := ?_) #[true, true, true, true, true, false, true, true, true, true, false, true, true, true, true, false, true, true, true, false, false, false, false, false, false, false, false, false, false, false] rfl rfl (bQ HT_.out (by kernel_rfl)) (fun _ _ _ h => h) (Or.inl ⟨by rfl, ?_⟩) ?_ ?_
      rotate_left
      ·intro w'
       go_simp
       with_reducible rfl
      rotate_left
      ·simp only [Act.put, sZ1, sZ2, sZ3, bL, bM]
       rfl
      refine bR (i := 19) (N := some 31) (v := ?_) (a' := ?_) #[true, true, true, true, true, false, true, true, true, true, false, true, true, true, true, false, true, true, true, true, false, false, false, false, false, false, false, false, false, false] rfl rfl (bQ HT_.out (by kernel_rfl)) (fun _ _ _ h => h) (Or.inl ⟨by rfl, ?_⟩) ?_ ?_
      rotate_left
      ·intro w'
       go_simp
       with_reducible rfl
      rotate_left
      ·simp only [Act.put, sZ1, sZ2, sZ3, bL, bM]
       rfl
      refine bR (i := 21) (N := some 33) (v := ?_) (a' := ?_) #[true, true, true, true, true, false, true, true, true, true, false, true, true, true, true, false, true, true, true, true, false, true, false, false, false, false, false, false, false, false] rfl rfl (bQ HT_.out (by kernel_rfl)) (fun _ _ _ h => h) (Or.inl ⟨by rfl, ?_⟩) ?_ ?_
      rotate_left
      ·intro w'
       go_simp
       with_reducible rfl
      rotate_left
      ·simp only [Act.put, sZ1, sZ2, sZ3, bL, bM]
       rfl
      refine bR (i := 22) (N := some 34) (v := ?_) (a' := ?_) #[true, true, true, true, true, false, true, true, true, true, false, true, true, true, true, false, true, true, true, true, false, true, true, false, false, false, false, false, false, false] rfl rfl (bQ HT_.out (by kernel_rfl)) (fun _ _ _ h => h) (Or.inl ⟨by rfl, ?_⟩) ?_ ?_
      rotate_left
      ·intro w'
       go_simp
       with_reducible rfl
      rotate_left
      ·simp only [Act.put, sZ1, sZ2, sZ3, bL, bM]
       rfl
      refine bR (i := 23) (N := some 35) (v := ?_) (a' := ?_) #[true, true, true, true, true, false, true, true, true, true, false, true, true, true, true, false, true, true, true, true, false, true, true, true, false, false, false, false, false, false] rfl rfl (bQ HT_.out (by kernel_rfl)) (fun _ _ _ h => h) (Or.inl ⟨by rfl, ?_⟩) ?_ ?_
      rotate_left
      ·intro w'
       go_simp
       with_reducible rfl
      rotate_left
      ·simp only [Act.put, sZ1, sZ2, sZ3, bL, bM]
       rfl
      refine bR (i := 24) (N := some 36) (v := ?_) (a' := ?_) #[true, true, true, true, true, false, true, true, true, true, false, true, true, true, true, false, true, true, true, true, false, true, true, true, true, false, false, false, false, false] rfl rfl (bQ HT_.out (by kernel_rfl)) (fun _ _ _ h => h) (Or.inl ⟨by rfl, ?_⟩) ?_ ?_
      rotate_left
      ·intro w'
       go_simp
       with_reducible rfl
      rotate_left
      ·simp only [Act.put, sZ1, sZ2, sZ3, bL, bM]
       rfl
      refine take_ (i := 5) (N := some 17) (v := ?_) (a' := ?_) #[true, true, true, true, true, true, true, true, true, true, false, true, true, true, true, false, true, true, true, true, false, true, true, true, true, false, false, false, false, false] rfl rfl (bX HT_.out HW_.out (by kernel_rfl)) (fun _ _ _ h => h) (Or.inl ⟨by rfl, ?_⟩) hHeld ?_ ?_
      rotate_left
      ·rintro w' ⟨s0, s1, s2, s3, s4, s5, s6, s7, s8, s9, s10, s11, s12, s13, s14, s15, s16, s17, s18, s19, s20, s21, s22, s23, s24⟩
       go_simp
       with_reducible rfl
      rotate_left
      ·simp only [Act.put, sZ1, sZ2, sZ3, bL, bM]
       rfl
      refine take_ (i := 10) (N := some 22) (v := ?_) (a' := ?_) #[true, true, true, true, true, true, true, true, true, true, true, true, true, true, true, false, true, true, true, true, false, true, true, true, true, false, false, false, false, false] rfl rfl (bX HT_.out HW_.out (by kernel_rfl)) (fun _ _ _ h => h) (Or.inl ⟨by rfl, ?_⟩) hHeld ?_ ?_
      rotate_left
      ·rintro w' ⟨s0, s1, s2, s3, s4, s5, s6, s7, s8, s9, s10, s11, s12, s13, s14, s15, s16, s17, s18, s19, s20, s21, s22, s23, s24⟩
       go_simp
       with_reducible rfl
      rotate_left
      ·simp only [Act.put, sZ1, sZ2, sZ3, bL, bM]
       rfl
      refine take_ (i := 15) (N := some 27) (v := ?_) (a' := ?_) #[true, true, true, true, true, true, true, true, true, true, true, true, true, true, true, true, true, true, true, true, false, true, true, true, true, false, false, false, false, false] rfl rfl (bX HT_.out HW_.out (by kernel_rfl)) (fun _ _ _ h => h) (Or.inl ⟨by rfl, ?_⟩) hHeld ?_ ?_
      rotate_left
      ·rintro w' ⟨s0, s1, s2, s3, s4, s5, s6, s7, s8, s9, s10, s11, s12, s13, s14, s15, s16, s17, s18, s19, s20, s21, s22, s23, s24⟩
       go_simp
       with_reducible rfl
      rotate_left
      ·simp only [Act.put, sZ1, sZ2, sZ3, bL, bM]
       rfl
      refine take_ (i := 20) (N := some 32) (v := ?_) (a' := ?_) #[true, true, true, true, true, true, true, true, true, true, true, true, true, true, true, true, true, true, true, true, true, true, true, true, true, false, false, false, false, false] rfl rfl (bX HT_.out HW_.out (by kernel_rfl)) (fun _ _ _ h => h) (Or.inl ⟨by rfl, ?_⟩) hHeld ?_ ?_
      rotate_left
      ·rintro w' ⟨s0, s1, s2, s3, s4, s5, s6, s7, s8, s9, s10, s11, s12, s13, s14, s15, s16, s17, s18, s19, s20, s21, s22, s23, s24⟩
       go_simp
       with_reducible rfl
      rotate_left
      ·simp only [Act.put, sZ1, sZ2, sZ3, bL, bM]
       rfl
      refine take_ (i := 25) (N := some 37) (v := ?_) (a' := ?_) #[true, true, true, true, true, true, true, true, true, true, true, true, true, true, true, true, true, true, true, true, true, true, true, true, true, true, false, false, false, false] rfl rfl (bX HT_.out HW_.out (by kernel_rfl)) (fun _ _ _ h => h) (Or.inl ⟨by rfl, ?_⟩) hHeld ?_ ?_
      rotate_left
      ·rintro w' ⟨s0, s1, s2, s3, s4, s5, s6, s7, s8, s9, s10, s11, s12, s13, s14, s15, s16, s17, s18, s19, s20, s21, s22, s23, s24⟩
       go_simp
       with_reducible rfl
      rotate_left
      ·simp only [Act.put, sZ1, sZ2, sZ3, bL, bM]
       rfl
      refine bR (i := 26) (N := some 38) (v := ?_) (a' := ?_) #[true, true, true, true, true, true, true, true, true, true, true, true, true, true, true, true, true, true, true, true, true, true, true, true, true, true, true, false, false, false] rfl rfl (bQ HT_.out (by kernel_rfl)) (fun _ _ _ h => h) (Or.inl ⟨by rfl, ?_⟩) ?_ ?_
      rotate_left
      ·intro w'
       go_simp
       with_reducible rfl
      rotate_left
      ·simp only [Act.put, sZ1, sZ2, sZ3, bL, bM]
       rfl
      refine one_ (i := 27) (N := some 39) #[true, true, true, true, true, true, true, true, true, true, true, true, true, true, true, true, true, true, true, true, true, true, true, true, true, true, true, true, false, false] rfl rfl (one_of HT_.out (by kernel_rfl)) (by decide) (fun K hK => ?_)
      refine value_ (w1 := ?_) (v := ?_) (by rfl) rfl ?_ ?_
      rotate_left 2
      ·go_simp
       constructor
       ·rfl
       ·rfl
      refine hK.out _ _ ⟨(World.cell?_alloc_lt _ _ _ (World.block_lt_of_cell? _ _ (((HB.out.cell (World.block_lt_of_cell? w _ hw292_0)).trans hw292_0)))).trans (((HB.out.cell (World.block_lt_of_cell? w _ hw292_0)).trans hw292_0)), (World.cell?_alloc_lt _ _ _ (World.block_lt_of_cell? _ _ (((HB.out.cell (World.block_lt_of_cell? w _ hw292_1)).trans hw292_1)))).trans (((HB.out.cell (World.block_lt_of_cell? w _ hw292_1)).trans hw292_1)), (World.cell?_alloc_lt _ _ _ (World.block_lt_of_cell? _ _ (((HB.out.cell (World.block_lt_of_cell? w _ hw292_2)).trans hw292_2)))).trans (((HB.out.cell (World.block_lt_of_cell? w _ hw292_2)).trans hw292_2)), (World.cell?_alloc_lt _ _ _ (World.block_lt_of_cell? _ _ (((HB.out.cell (World.block_lt_of_cell? w _ hw292_3)).trans hw292_3)))).trans (((HB.out.cell (World.block_lt_of_cell? w _ hw292_3)).trans hw292_3)), (World.cell?_alloc_lt _ _ _ (World.block_lt_of_cell? _ _ (((HB.out.cell (World.block_lt_of_cell? w _ hw292_4)).trans hw292_4)))).trans (((HB.out.cell (World.block_lt_of_cell? w _ hw292_4)).trans hw292_4)), (World.cell?_alloc_lt _ _ _ (World.block_lt_of_cell? _ _ (((HB.out.cell (World.block_lt_of_cell? w _ hw293_0)).trans hw293_0)))).trans (((HB.out.cell (World.block_lt_of_cell? w _ hw293_0)).trans hw293_0)), (World.cell?_alloc_lt _ _ _ (World.block_lt_of_cell? _ _ (((HB.out.cell (World.block_lt_of_cell? w _ hw293_1)).trans hw293_1)))).trans (((HB.out.cell (World.block_lt_of_cell? w _ hw293_1)).trans hw293_1)), (World.cell?_alloc_lt _ _ _ (World.block_lt_of_cell? _ _ (((HB.out.cell (World.block_lt_of_cell? w _ hw293_2)).trans hw293_2)))).trans (((HB.out.cell (World.block_lt_of_cell? w _ hw293_2)).trans hw293_2)), (World.cell?_alloc_lt _ _ _ (World.block_lt_of_cell? _ _ (((HB.out.cell (World.block_lt_of_cell? w _ hw293_3)).trans hw293_3)))).trans (((HB.out.cell (World.block_lt_of_cell? w _ hw293_3)).trans hw293_3)), (World.cell?_alloc_lt _ _ _ (World.block_lt_of_cell? _ _ (((HB.out.cell (World.block_lt_of_cell? w _ hw293_4)).trans hw293_4)))).trans (((HB.out.cell (World.block_lt_of_cell? w _ hw293_4)).trans hw293_4)), (World.cell?_alloc_lt _ _ _ (World.block_lt_of_cell? _ _ (((HB.out.cell (World.block_lt_of_cell? w _ hw294_0)).trans hw294_0)))).trans (((HB.out.cell (World.block_lt_of_cell? w _ hw294_0)).trans hw294_0)), (World.cell?_alloc_lt _ _ _ (World.block_lt_of_cell? _ _ (((HB.out.cell (World.block_lt_of_cell? w _ hw294_1)).trans hw294_1)))).trans (((HB.out.cell (World.block_lt_of_cell? w _ hw294_1)).trans hw294_1)), (World.cell?_alloc_lt _ _ _ (World.block_lt_of_cell? _ _ (((HB.out.cell (World.block_lt_of_cell? w _ hw294_2)).trans hw294_2)))).trans (((HB.out.cell (World.block_lt_of_cell? w _ hw294_2)).trans hw294_2)), (World.cell?_alloc_lt _ _ _ (World.block_lt_of_cell? _ _ (((HB.out.cell (World.block_lt_of_cell? w _ hw294_3)).trans hw294_3)))).trans (((HB.out.cell (World.block_lt_of_cell? w _ hw294_3)).trans hw294_3)), (World.cell?_alloc_lt _ _ _ (World.block_lt_of_cell? _ _ (((HB.out.cell (World.block_lt_of_cell? w _ hw294_4)).trans hw294_4)))).trans (((HB.out.cell (World.block_lt_of_cell? w _ hw294_4)).trans hw294_4)), (World.cell?_alloc_lt _ _ _ (World.block_lt_of_cell? _ _ (((HB.out.cell (World.block_lt_of_cell? w _ hw295_0)).trans hw295_0)))).trans (((HB.out.cell (World.block_lt_of_cell? w _ hw295_0)).trans hw295_0)), (World.cell?_alloc_lt _ _ _ (World.block_lt_of_cell? _ _ (((HB.out.cell (World.block_lt_of_cell? w _ hw295_1)).trans hw295_1)))).trans (((HB.out.cell (World.block_lt_of_cell? w _ hw295_1)).trans hw295_1)), (World.cell?_alloc_lt _ _ _ (World.block_lt_of_cell? _ _ (((HB.out.cell (World.block_lt_of_cell? w _ hw295_2)).trans hw295_2)))).trans (((HB.out.cell (World.block_lt_of_cell? w _ hw295_2)).trans hw295_2)), (World.cell?_alloc_lt _ _ _ (World.block_lt_of_cell? _ _ (((HB.out.cell (World.block_lt_of_cell? w _ hw295_3)).trans hw295_3)))).trans (((HB.out.cell (World.block_lt_of_cell? w _ hw295_3)).trans hw295_3)), (World.cell?_alloc_lt _ _ _ (World.block_lt_of_cell? _ _ (((HB.out.cell (World.block_lt_of_cell? w _ hw295_4)).trans hw295_4)))).trans (((HB.out.cell (World.block_lt_of_cell? w _ hw295_4)).trans hw295_4)), (World.cell?_alloc_lt _ _ _ (World.block_lt_of_cell? _ _ (((HB.out.cell (World.block_lt_of_cell? w _ hw296_0)).trans hw296_0)))).trans (((HB.out.cell (World.block_lt_of_cell? w _ hw296_0)).trans hw296_0)), (World.cell?_alloc_lt _ _ _ (World.block_lt_of_cell? _ _ (((HB.out.cell (World.block_lt_of_cell? w _ hw296_1)).trans hw296_1)))).trans (((HB.out.cell (World.block_lt_of_cell? w _ hw296_1)).trans hw296_1)), (World.cell?_alloc_lt _ _ _ (World.block_lt_of_cell? _ _ (((HB.out.cell (World.block_lt_of_cell? w _ hw296_2)).trans hw296_2)))).trans (((HB.out.cell (World.block_lt_of_cell? w _ hw296_2)).trans hw296_2)), (World.cell?_alloc_lt _ _ _ (World.block_lt_of_cell? _ _ (((HB.out.cell (World.block_lt_of_cell? w _ hw296_3)).trans hw296_3)))).trans (((HB.out.cell (World.block_lt_of_cell? w _ hw296_3)).trans hw296_3)), (World.cell?_alloc_lt _ _ _ (World.block_lt_of_cell? _ _ (((HB.out.cell (World.block_lt_of_cell? w _ hw296_4)).trans hw296_4)))).trans (((HB.out.cell (World.block_lt_of_cell? w _ hw296_4)).trans hw296_4))⟩ (fun hHeld => ?_)
      clear hK K
      refine norm_ (a' := ?_) ?_ ?_
      rotate_left
      ·show Act.put _ (some 39) _ = _
       simp only [Act.put, sZ1, sZ2, sZ3, bL, bM]
       rfl
      refine one_ (i := 28) (N := some 40) #[true, true, true, true, true, true, true, true, true, true, true, true, true, true, true, true, true, true, true, true, true, true, true, true, true, true, true, true, true, false] rfl rfl (one_of HT_.out (by kernel_rfl)) (by decide) (fun K hK => ?_)
      refine Kd.R_append_step k128 (w0 := w) w.heap.size (by rfl) (.tmp 12) (.tmp 39) 63 128 (.agg #[(.int .i64 0), (.int .i64 0), (.int .i64 0), (.int .i64 0), (.bool false)]) 40 rfl Try.underlying63 info128 rfl (by decide) (by omega) u3 x3_1 (⟨(rd_T129 l0 x4_1).f0, (rd_T129 l0 x4_1).f1, (rd_T129 l0 x4_1).f2, (rd_T129 l0 x4_1).f3, (rd_T129 l0 x4_1).f4⟩ : S128) [.int .i64 ((rd_T129 l0 x4_1).f0), .int .i64 ((rd_T129 l0 x4_1).f1), .int .i64 ((rd_T129 l0 x4_1).f2), .int .i64 ((rd_T129 l0 x4_1).f3), .bool ((rd_T129 l0 x4_1).f4)] (fun _ => True) (fun _ => False) rfl rfl ?aP (fun _ hk => hk.elim) ?aF ?aO ?aB ?aS ?aL ?_
      (case aP => exact k128_mkM _ _ _ (⟨(rd_T129 l0 x4_1).f0, (rd_T129 l0 x4_1).f1, (rd_T129 l0 x4_1).f2, (rd_T129 l0 x4_1).f3, (rd_T129 l0 x4_1).f4⟩ : S128))
      (case aB => exact (by repeat (first | (with_reducible first | exact HB.out | apply bE | apply bA | apply bD) | exact HB.out)))
      (case aF => exact (fun _ _ => trivial))
      (case aO => exact (by (with_reducible repeat (first | apply Kd.R_alloc | apply Kd.R_drewN | apply Kd.R_drew)); exact HO_3.out))
      (case aS => exact (bK (by repeat (first | (with_reducible first | exact HB.out | apply bE | apply bA | apply bD) | exact HB.out))))
      (case aL => have := LMc6.out; omega)
      intro v298 w8 ho hb hg hat
      rw [← Ny297.out] at ho
      have n0_ := Aside0.mk (hb)
      have n1_ := Aside0.mk (ho)
      clear HB
      clear HO_3
      have HB := n0_
      have HO299 := n1_
      clear n0_ n1_
      clear ho hb hg hat
      refine hK.out _ _ ⟨((HB.out.cell (World.block_lt_of_cell? w _ hw292_0)).trans hw292_0), ((HB.out.cell (World.block_lt_of_cell? w _ hw292_1)).trans hw292_1), ((HB.out.cell (World.block_lt_of_cell? w _ hw292_2)).trans hw292_2), ((HB.out.cell (World.block_lt_of_cell? w _ hw292_3)).trans hw292_3), ((HB.out.cell (World.block_lt_of_cell? w _ hw292_4)).trans hw292_4), ((HB.out.cell (World.block_lt_of_cell? w _ hw293_0)).trans hw293_0), ((HB.out.cell (World.block_lt_of_cell? w _ hw293_1)).trans hw293_1), ((HB.out.cell (World.block_lt_of_cell? w _ hw293_2)).trans hw293_2), ((HB.out.cell (World.block_lt_of_cell? w _ hw293_3)).trans hw293_3), ((HB.out.cell (World.block_lt_of_cell? w _ hw293_4)).trans hw293_4), ((HB.out.cell (World.block_lt_of_cell? w _ hw294_0)).trans hw294_0), ((HB.out.cell (World.block_lt_of_cell? w _ hw294_1)).trans hw294_1), ((HB.out.cell (World.block_lt_of_cell? w _ hw294_2)).trans hw294_2), ((HB.out.cell (World.block_lt_of_cell? w _ hw294_3)).trans hw294_3), ((HB.out.cell (World.block_lt_of_cell? w _ hw294_4)).trans hw294_4), ((HB.out.cell (World.block_lt_of_cell? w _ hw295_0)).trans hw295_0), ((HB.out.cell (World.block_lt_of_cell? w _ hw295_1)).trans hw295_1), ((HB.out.cell (World.block_lt_of_cell? w _ hw295_2)).trans hw295_2), ((HB.out.cell (World.block_lt_of_cell? w _ hw295_3)).trans hw295_3), ((HB.out.cell (World.block_lt_of_cell? w _ hw295_4)).trans hw295_4), ((HB.out.cell (World.block_lt_of_cell? w _ hw296_0)).trans hw296_0), ((HB.out.cell (World.block_lt_of_cell? w _ hw296_1)).trans hw296_1), ((HB.out.cell (World.block_lt_of_cell? w _ hw296_2)).trans hw296_2), ((HB.out.cell (World.block_lt_of_cell? w _ hw296_3)).trans hw296_3), ((HB.out.cell (World.block_lt_of_cell? w _ hw296_4)).trans hw296_4)⟩ (fun hHeld => ?_)
      clear hK K
      refine norm_ (a' := ?_) ?_ ?_
      rotate_left
      ·show Act.put _ (some 40) _ = _
       simp only [Act.put, sZ1, sZ2, sZ3, bL, bM]
       rfl
      refine bR (i := 29) (N := some 3) (v := ?_) (a' := ?_) #[true, true, true, true, true, true, true, true, true, true, true, true, true, true, true, true, true, true, true, true, true, true, true, true, true, true, true, true, true, true] rfl rfl (bQ HT_.out (by kernel_rfl)) (fun _ _ _ h => h) (Or.inl ⟨by rfl, ?_⟩) ?_ ?_
      rotate_left
      ·intro w'
       go_simp
       with_reducible rfl
      rotate_left
      ·simp only [Act.put, sZ1, sZ2, sZ3, bL, bM]
       rfl
      refine done_ (done_of HT_.out (by kernel_rfl)) ?_
      try go_wp2
      go_roundg k1
      case measure => have := HK1.out; omega
      case rel => exact ⟨(y297), (wrap64 (x4_1 + 1)), (by first | rfl | (simp; done) | (simp [*]; done)), H', ⟨by have := HK1.out; omega⟩, ⟨by (with_reducible repeat (first | apply Kd.R_alloc | apply Kd.R_drewN | apply Kd.R_drew)); exact HO299.out⟩, ⟨by repeat (first | (with_reducible first | exact HB.out | apply bE | apply bA | apply bD) | exact HB.out)⟩⟩
     ·rw [if_neg c6] at H
      exact absurd H (by simp)
    ·rw [if_neg c5] at H
     exact absurd H (by simp)
   ·rw [if_neg c4] at H
    have c4b0 : decide (x4_1 < (l0.length : Int)) = false := decide_eq_false c4
    clear c4
    obtain rfl := Option.some.inj H
    go_wp2
    go_ret
    exact ⟨_, by first | rfl | (simp [errW_none, errW_some] <;> rfl) | (simp [*, errW_none, errW_some] <;> rfl), by (with_reducible repeat (first | apply Kd.R_alloc | apply Kd.R_drewN | apply Kd.R_drew)); exact HO_3.out, by repeat (first | (with_reducible first | exact HB.out | apply bE | apply bA | apply bD) | exact HB.out)⟩

/-! ### easementlaw18_StmtNeeds: function 8 -/
def easementlaw18_StmtNeeds.f (k : Nat) (a0_0 : Int) (a0_1 : Int) (a0_2 : Int) (a0_3 : Int) (a0_4 : Bool) (l1 : List (S44)) (a2 : Int) : Option (Bool) := (easementlaw18_few.f k l1).bind fun t301 => (if t301 = true then ((stmt_Needs.f k a0_0 a0_1 a0_2 a0_3 a0_4 l1 a2).bind fun bt303 => ((easementref18_Needs.f k a0_0 a0_1 a0_2 a0_3 a0_4 l1 a2).bind fun bt307 => ((easementlaw16_Doc.f k bt303.1).bind fun t311 => ((easementref16_Same.f k t311 bt307.1).bind fun t314 => (if t314 = true then (if bt303.2 = bt307.2 then ((stmt_Check.f k a0_0 a0_1 a0_2 a0_3 a0_4 l1 a2).bind fun t315 => (if t315 = bt307.2 then ((easementlaw18_awake.f k).bind fun t316 => (some t316)) else (some false))) else (some false)) else (some false)))))) else ((easementlaw18_awake.f k).bind fun t302 => (some t302)))
theorem easementlaw18_StmtNeeds.mono : ∀ a0 a1 a2 a3 a4 a5 a6 k, LeO (easementlaw18_StmtNeeds.f k a0 a1 a2 a3 a4 a5 a6) (easementlaw18_StmtNeeds.f (k + 1) a0 a1 a2 a3 a4 a5 a6) := by
 intro a0 a1 a2 a3 a4 a5 a6 k
 unfold easementlaw18_StmtNeeds.f
 repeat' first
   | (with_reducible exact easementlaw16_Doc.mono _ _)
   | (with_reducible exact easementlaw18_awake.mono _)
   | (with_reducible exact easementlaw18_few.mono _ _)
   | (with_reducible exact easementref16_Same.mono _ _ _)
   | (with_reducible exact easementref18_Needs.mono _ _ _ _ _ _ _ _)
   | (with_reducible exact stmt_Check.mono _ _ _ _ _ _ _ _)
   | (with_reducible exact stmt_Needs.mono _ _ _ _ _ _ _ _)
   | (with_reducible exact LeO.refl _)
   | (with_reducible exact LeO.none _)
   | (with_reducible refine LeO.ite ?_ ?_)
   | (with_reducible refine LeO.bind ?_ (fun _ => ?_))
   | exact easementlaw16_Doc.mono _ _
   | exact easementlaw18_awake.mono _
   | exact easementlaw18_few.mono _ _
   | exact easementref16_Same.mono _ _ _
   | exact easementref18_Needs.mono _ _ _ _ _ _ _ _
   | exact stmt_Check.mono _ _ _ _ _ _ _ _
   | exact stmt_Needs.mono _ _ _ _ _ _ _ _
   | exact LeO.none _
   | refine LeO.ite ?_ ?_
   | refine LeO.bind ?_ (fun _ => ?_)
set_option maxHeartbeats 8000000 in
set_option maxRecDepth 100000 in
theorem easementlaw18_StmtNeeds.calls (k : Nat) (a0_0 : Int) (a0_1 : Int) (a0_2 : Int) (a0_3 : Int) (a0_4 : Bool) (A1 : Option Addr) (c1 : Nat) (l1 : List (S44)) (a2 : Int) (r : Bool) (w : World) (hr1 : Kd.C k44 w A1 l1.length l1) (hc1 : l1.length ≤ c1) (h : easementlaw18_StmtNeeds.f k a0_0 a0_1 a0_2 a0_3 a0_4 l1 a2 = some r) :
  Calls Try.prog 8 #[.agg #[.int .i64 a0_0, .int .i64 a0_1, .int .i64 a0_2, .int .i64 a0_3, .bool a0_4], .slice A1 l1.length c1, .int .i64 a2] w fun e w' => e = .returned (.bool r) ∧ Below w.heap.size w w' := by
 have hu23 := Try.underlying23
 have HR1 := Aside0.mk hr1
 have HC1 := Aside0.mk hc1
 clear hr1 hc1
 have HB := Aside0.mk (Below.refl w.heap.size w)
 have H : ((easementlaw18_few.f k l1).bind fun t301 => (if t301 = true then ((stmt_Needs.f k a0_0 a0_1 a0_2 a0_3 a0_4 l1 a2).bind fun bt303 => ((easementref18_Needs.f k a0_0 a0_1 a0_2 a0_3 a0_4 l1 a2).bind fun bt307 => ((easementlaw16_Doc.f k bt303.1).bind fun t311 => ((easementref16_Same.f k t311 bt307.1).bind fun t314 => (if t314 = true then (if bt303.2 = bt307.2 then ((stmt_Check.f k a0_0 a0_1 a0_2 a0_3 a0_4 l1 a2).bind fun t315 => (if t315 = bt307.2 then ((easementlaw18_awake.f k).bind fun t316 => (some t316)) else (some false))) else (some false)) else (some false)))))) else ((easementlaw18_awake.f k).bind fun t302 => (some t302)))) = some r := h
 clear h
 replace H := Option.bind_eq_some_iff.mp H
 obtain ⟨t301, A40, H⟩ := H
 replace H : (if t301 = true then ((stmt_Needs.f k a0_0 a0_1 a0_2 a0_3 a0_4 l1 a2).bind fun bt303 => ((easementref18_Needs.f k a0_0 a0_1 a0_2 a0_3 a0_4 l1 a2).bind fun bt307 => ((easementlaw16_Doc.f k bt303.1).bind fun t311 => ((easementref16_Same.f k t311 bt307.1).bind fun t314 => (if t314 = true then (if bt303.2 = bt307.2 then ((stmt_Check.f k a0_0 a0_1 a0_2 a0_3 a0_4 l1 a2).bind fun t315 => (if t315 = bt307.2 then ((easementlaw18_awake.f k).bind fun t316 => (some t316)) else (some false))) else (some false)) else (some false)))))) else ((easementlaw18_awake.f k).bind fun t302 => (some t302))) = some r := H
 have A4 := Aside0.mk A40
 clear A40
 by_cases c5 : t301 = true
 ·subst c5
  have H1 : ((stmt_Needs.f k a0_0 a0_1 a0_2 a0_3 a0_4 l1 a2).bind fun bt303 => ((easementref18_Needs.f k a0_0 a0_1 a0_2 a0_3 a0_4 l1 a2).bind fun bt307 => ((easementlaw16_Doc.f k bt303.1).bind fun t311 => ((easementref16_Same.f k t311 bt307.1).bind fun t314 => (if t314 = true then (if bt303.2 = bt307.2 then ((stmt_Check.f k a0_0 a0_1 a0_2 a0_3 a0_4 l1 a2).bind fun t315 => (if t315 = bt307.2 then ((easementlaw18_awake.f k).bind fun t316 => (some t316)) else (some false))) else (some false)) else (some false)))))) = some r := by rw [if_pos rfl] at H; exact H
  clear H
  have H := H1
  clear H1
  replace H := Option.bind_eq_some_iff.mp H
  obtain ⟨⟨t303, t306⟩, A60, H⟩ := H
  replace H : ((easementref18_Needs.f k a0_0 a0_1 a0_2 a0_3 a0_4 l1 a2).bind fun bt307 => ((easementlaw16_Doc.f k t303).bind fun t311 => ((easementref16_Same.f k t311 bt307.1).bind fun t314 => (if t314 = true then (if t306 = bt307.2 then ((stmt_Check.f k a0_0 a0_1 a0_2 a0_3 a0_4 l1 a2).bind fun t315 => (if t315 = bt307.2 then ((easementlaw18_awake.f k).bind fun t316 => (some t316)) else (some false))) else (some false)) else (some false))))) = some r := H
  have A6 := Aside0.mk A60
  clear A60
  replace H := Option.bind_eq_some_iff.mp H
  obtain ⟨⟨t307, t310⟩, A70, H⟩ := H
  replace H : ((easementlaw16_Doc.f k t303).bind fun t311 => ((easementref16_Same.f k t311 t307).bind fun t314 => (if t314 = true then (if t306 = t310 then ((stmt_Check.f k a0_0 a0_1 a0_2 a0_3 a0_4 l1 a2).bind fun t315 => (if t315 = t310 then ((easementlaw18_awake.f k).bind fun t316 => (some t316)) else (some false))) else (some false)) else (some false)))) = some r := H
  have A7 := Aside0.mk A70
  clear A70
  replace H := Option.bind_eq_some_iff.mp H
  obtain ⟨t311, A80, H⟩ := H
  replace H : ((easementref16_Same.f k t311 t307).bind fun t314 => (if t314 = true then (if t306 = t310 then ((stmt_Check.f k a0_0 a0_1 a0_2 a0_3 a0_4 l1 a2).bind fun t315 => (if t315 = t310 then ((easementlaw18_awake.f k).bind fun t316 => (some t316)) else (some false))) else (some false)) else (some false))) = some r := H
  have A8 := Aside0.mk A80
  clear A80
  replace H := Option.bind_eq_some_iff.mp H
  obtain ⟨t314, A90, H⟩ := H
  replace H : (if t314 = true then (if t306 = t310 then ((stmt_Check.f k a0_0 a0_1 a0_2 a0_3 a0_4 l1 a2).bind fun t315 => (if t315 = t310 then ((easementlaw18_awake.f k).bind fun t316 => (some t316)) else (some false))) else (some false)) else (some false)) = some r := H
  have A9 := Aside0.mk A90
  clear A90
  by_cases c10 : t314 = true
  ·subst c10
   have H1 : (if t306 = t310 then ((stmt_Check.f k a0_0 a0_1 a0_2 a0_3 a0_4 l1 a2).bind fun t315 => (if t315 = t310 then ((easementlaw18_awake.f k).bind fun t316 => (some t316)) else (some false))) else (some false)) = some r := by rw [if_pos rfl] at H; exact H
   clear H
   have H := H1
   clear H1
   by_cases c11 : t306 = t310
   ·rw [if_pos c11] at H
    have c11b0 : (t306 == t310) = true := beq_iff_eq.mpr c11
    have c11b1 : (t306 != t310) = false := bne_eq_false_iff_eq.mpr c11
    clear c11
    replace H := Option.bind_eq_some_iff.mp H
    obtain ⟨t315, A120, H⟩ := H
    replace H : (if t315 = t310 then ((easementlaw18_awake.f k).bind fun t316 => (some t316)) else (some false)) = some r := H
    have A12 := Aside0.mk A120
    clear A120
    by_cases c13 : t315 = t310
    ·rw [if_pos c13] at H
     have c13b0 : (t315 == t310) = true := beq_iff_eq.mpr c13
     have c13b1 : (t315 != t310) = false := bne_eq_false_iff_eq.mpr c13
     clear c13
     replace H := Option.bind_eq_some_iff.mp H
     obtain ⟨t316, A140, H⟩ := H
     replace H : (some t316) = some r := H
     have A14 := Aside0.mk A140
     clear A140
     obtain rfl := Option.some.inj H
     go_enter Try.func8, Try.ntmps8
     go_wp2_with (first | ((with_reducible refine bT (N := 3) rfl ?_); refine bS ?hg (N := 3) ?hd (cs := #[.int .i64 a0_0, .int .i64 a0_1, .int .i64 a0_2, .int .i64 a0_3, .bool a0_4]) (t := 23) ?hr ?_; (case hd => rfl); (case hg => rfl); (case hr => first | (go_simp; done) | (go_simp; rfl)); intro gb300 hg w15 hbox hb; have n0_ := Aside0.mk (bP (by repeat (first | (with_reducible first | exact HB.out | apply bE | apply bA | apply bD) | exact HB.out)) hb); have n1_ := Aside0.mk (hbox); have n2_ := Aside0.mk ((by rw [hg]; exact (bK (by repeat (first | (with_reducible first | exact HB.out | apply bE | apply bA | apply bD) | exact HB.out))) : w.heap.size ≤ gb300)); have n3_ := Aside0.mk ((by rw [hg]; exact (bK (by repeat (first | (with_reducible first | exact HB.out | apply bE | apply bA | apply bD) | exact HB.out))) : w.heap.size ≤ gb300)); clear HB; have HB := n0_; have BK300 := n1_; have GW300 := n2_; have GE300 := n3_; clear n0_ n1_ n2_ n3_; clear hb hbox hg) | ((with_reducible refine bV (f := 35) rfl ?_); refine goesL_ (some 12) rfl rfl Try.func35 (by kernel_rfl) rfl #[.slice A1 l1.length c1] rfl (by (try simp only [List.map_toArray, List.map_cons, List.map_nil]); first | done | rfl | (simp only [List.length_drop, List.length_take]; rfl)) ?_; (with_reducible refine (easementlaw18_few.calls k _ _ l1 true _ ?side1 ?side2 A4.out).mono ?_); (case side1 => repeat (first | exact (Kd.bZ HR1.out HB.out) | (with_reducible refine Kd.C_alloc ?_ _) | (with_reducible refine Kd.C_drewN ?_ _) | (with_reducible refine Kd.C_drew ?_))); (case side2 => exact HC1.out); rintro e w16 ⟨rfl, hb⟩; refine ⟨_, rfl, ?_⟩; have n0_ := Aside0.mk (bU (g := gb300) (o := .cells #[.int .i64 a0_0, .int .i64 a0_1, .int .i64 a0_2, .int .i64 a0_3, .bool a0_4] 23 (0, 0)) (by (with_reducible repeat (first | refine bG ?_ _ | refine bH ?_ | refine bF ?_ _)); exact BK300.out) hb); have n1_ := Aside0.mk (bP (by repeat (first | (with_reducible first | exact HB.out | apply bE | apply bA | apply bD | refine bJ ?_ GE300.out) | exact HB.out)) hb); clear BK300; clear HB; have BK300 := n0_; have HB := n1_; clear n0_ n1_; (try clear hb); (try clear hb2); (try clear hk); (try clear hi); have hcz17_0 : w16.cell? ⟨gb300, 0, none⟩ = some (.int .i64 a0_0) := (bC BK300.out 0).trans rfl; have hcz17_1 : w16.cell? ⟨gb300, 1, none⟩ = some (.int .i64 a0_1) := (bC BK300.out 1).trans rfl; have hcz17_2 : w16.cell? ⟨gb300, 2, none⟩ = some (.int .i64 a0_2) := (bC BK300.out 2).trans rfl; have hcz17_3 : w16.cell? ⟨gb300, 3, none⟩ = some (.int .i64 a0_3) := (bC BK300.out 3).trans rfl; have hcz17_4 : w16.cell? ⟨gb300, 4, none⟩ = some (.bool a0_4) := (bC BK300.out 4).trans rfl; have hfz17_0 := bB BK300.out 0; have hfz17_1 := bB BK300.out 1; have hfz17_2 := bB BK300.out 2; have hfz17_3 := bB BK300.out 3; have hfz17_4 := bB BK300.out 4) | ((with_reducible refine bV (f := 36) rfl ?_); refine goesL_ (some 19) rfl rfl Try.func36 (by kernel_rfl) rfl #[.agg #[.int .i64 a0_0, .int .i64 a0_1, .int .i64 a0_2, .int .i64 a0_3, .bool a0_4], .slice A1 l1.length c1, .int .i64 a2] rfl (by (try simp only [List.map_toArray, List.map_cons, List.map_nil]); first | done | rfl | (simp only [List.length_drop, List.length_take]; rfl)) ?_; (with_reducible refine (stmt_Needs.calls k a0_0 a0_1 a0_2 a0_3 a0_4 _ _ l1 a2 t303 t306 _ ?side1 ?side2 A6.out).mono ?_); (case side1 => repeat (first | exact (Kd.bZ HR1.out HB.out) | (with_reducible refine Kd.C_alloc ?_ _) | (with_reducible refine Kd.C_drewN ?_ _) | (with_reducible refine Kd.C_drew ?_))); (case side2 => exact HC1.out); rintro e w18 ⟨v304, rfl, ho0, hb⟩; refine ⟨_, rfl, ?_⟩; have n0_ := Aside0.mk (Kd.R_lower ho0 (bK (by repeat (first | (with_reducible first | exact HB.out | apply bE | apply bA | apply bD | refine bJ ?_ GE300.out) | exact HB.out)))); have n1_ := Aside0.mk (bU (g := gb300) (o := .cells #[.int .i64 a0_0, .int .i64 a0_1, .int .i64 a0_2, .int .i64 a0_3, .bool a0_4] 23 (0, 0)) (by (with_reducible repeat (first | refine bG ?_ _ | refine bH ?_ | refine bF ?_ _)); exact BK300.out) hb); have n2_ := Aside0.mk (bP (by repeat (first | (with_reducible first | exact HB.out | apply bE | apply bA | apply bD | refine bJ ?_ GE300.out) | exact HB.out)) hb); clear BK300; clear HB; have HO305 := n0_; have BK300 := n1_; have HB := n2_; clear n0_ n1_ n2_; (try clear hb); (try clear hb2); (try clear hk); (try clear hi); (try clear ho0); have hcz19_0 : w18.cell? ⟨gb300, 0, none⟩ = some (.int .i64 a0_0) := (bC BK300.out 0).trans rfl; have hcz19_1 : w18.cell? ⟨gb300, 1, none⟩ = some (.int .i64 a0_1) := (bC BK300.out 1).trans rfl; have hcz19_2 : w18.cell? ⟨gb300, 2, none⟩ = some (.int .i64 a0_2) := (bC BK300.out 2).trans rfl; have hcz19_3 : w18.cell? ⟨gb300, 3, none⟩ = some (.int .i64 a0_3) := (bC BK300.out 3).trans rfl; have hcz19_4 : w18.cell? ⟨gb300, 4, none⟩ = some (.bool a0_4) := (bC BK300.out 4).trans rfl; have hfz19_0 := bB BK300.out 0; have hfz19_1 := bB BK300.out 1; have hfz19_2 := bB BK300.out 2; have hfz19_3 := bB BK300.out 3; have hfz19_4 := bB BK300.out 4) | ((with_reducible refine bV (f := 37) rfl ?_); refine goesL_ (some 26) rfl rfl Try.func37 (by kernel_rfl) rfl #[.agg #[.int .i64 a0_0, .int .i64 a0_1, .int .i64 a0_2, .int .i64 a0_3, .bool a0_4], .slice A1 l1.length c1, .int .i64 a2] rfl (by (try simp only [List.map_toArray, List.map_cons, List.map_nil]); first | done | rfl | (simp only [List.length_drop, List.length_take]; rfl)) ?_; (with_reducible refine (easementref18_Needs.calls k a0_0 a0_1 a0_2 a0_3 a0_4 _ _ l1 a2 t307 t310 _ ?side1 ?side2 A7.out).mono ?_); (case side1 => repeat (first | exact (Kd.bZ HR1.out HB.out) | (with_reducible refine Kd.C_alloc ?_ _) | (with_reducible refine Kd.C_drewN ?_ _) | (with_reducible refine Kd.C_drew ?_))); (case side2 => exact HC1.out); rintro e w20 ⟨v308, rfl, ho0, hb⟩; refine ⟨_, rfl, ?_⟩; have n0_ := Aside0.mk (Kd.R_below (by (with_reducible repeat (first | apply Kd.R_alloc | apply Kd.R_drewN | apply Kd.R_drew)); exact HO305.out) hb); have n1_ := Aside0.mk (Kd.R_lower ho0 (bK (by repeat (first | (with_reducible first | exact HB.out | apply bE | apply bA | apply bD | refine bJ ?_ GE300.out) | exact HB.out)))); have n2_ := Aside0.mk (bU (g := gb300) (o := .cells #[.int .i64 a0_0, .int .i64 a0_1, .int .i64 a0_2, .int .i64 a0_3, .bool a0_4] 23 (0, 0)) (by (with_reducible repeat (first | refine bG ?_ _ | refine bH ?_ | refine bF ?_ _)); exact BK300.out) hb); have n3_ := Aside0.mk (bP (by repeat (first | (with_reducible first | exact HB.out | apply bE | apply bA | apply bD | refine bJ ?_ GE300.out) | exact HB.out)) hb); clear HO305; clear BK300; clear HB; have HO305 := n0_; have HO309 := n1_; have BK300 := n2_; have HB := n3_; clear n0_ n1_ n2_ n3_; (try clear hb); (try clear hb2); (try clear hk); (try clear hi); (try clear ho0); obtain ⟨Ao21, co21, eo21⟩ := Kd.R_slice HO305.out; subst eo21) | ((with_reducible refine bV (f := 39) rfl ?_); refine goesL_ (some 30) rfl rfl Try.func39 (by kernel_rfl) rfl #[.slice Ao21 t303.length co21] rfl (by (try simp only [List.map_toArray, List.map_cons, List.map_nil]); first | done | rfl | (simp only [List.length_drop, List.length_take]; rfl)) ?_; (with_reducible refine (easementlaw16_Doc.calls k _ _ t303 t311 _ ?side1 ?side2 A8.out).mono ?_); (case side1 => repeat (first | exact (Kd.R_reads' HO305.out).2.2 | (with_reducible refine Kd.C_alloc ?_ _) | (with_reducible refine Kd.C_drewN ?_ _) | (with_reducible refine Kd.C_drew ?_))); (case side2 => exact (Kd.R_reads' HO305.out).2.1); rintro e w22 ⟨v312, rfl, ho0, hb⟩; refine ⟨_, rfl, ?_⟩; have n0_ := Aside0.mk (Kd.R_below (by (with_reducible repeat (first | apply Kd.R_alloc | apply Kd.R_drewN | apply Kd.R_drew)); exact HO305.out) hb); have n1_ := Aside0.mk (Kd.R_elder' (by (with_reducible repeat (first | apply Kd.R_alloc | apply Kd.R_drewN | apply Kd.R_drew)); exact HO309.out) (Kd.R_base ho0) hb); have n2_ := Aside0.mk (Kd.R_lower (Kd.R_new' ho0 (Kd.R_lt (by (with_reducible repeat (first | apply Kd.R_alloc | apply Kd.R_drewN | apply Kd.R_drew)); exact HO309.out))) (bK (by repeat (first | (with_reducible first | exact HB.out | apply bE | apply bA | apply bD | refine bJ ?_ GE300.out) | exact HB.out)))); have n3_ := Aside0.mk (bU (g := gb300) (o := .cells #[.int .i64 a0_0, .int .i64 a0_1, .int .i64 a0_2, .int .i64 a0_3, .bool a0_4] 23 (0, 0)) (by (with_reducible repeat (first | refine bG ?_ _ | refine bH ?_ | refine bF ?_ _)); exact BK300.out) hb); have n4_ := Aside0.mk (bP (by repeat (first | (with_reducible first | exact HB.out | apply bE | apply bA | apply bD | refine bJ ?_ GE300.out) | exact HB.out)) hb); clear HO305; clear HO309; clear BK300; clear HB; have HO305 := n0_; have HO309 := n1_; have HO313 := n2_; have BK300 := n3_; have HB := n4_; clear n0_ n1_ n2_ n3_ n4_; (try clear hb); (try clear hb2); (try clear hk); (try clear hi); (try clear ho0); obtain ⟨Ao23, co23, eo23⟩ := Kd.R_slice HO313.out; subst eo23; obtain ⟨Ao24, co24, eo24⟩ := Kd.R_slice HO309.out; subst eo24) | ((with_reducible refine bV (f := 38) rfl ?_); refine goesL_ (some 32) rfl rfl Try.func38 (by kernel_rfl) rfl #[.slice Ao23 t311.length co23, .slice Ao24 t307.length co24] rfl (by (try simp only [List.map_toArray, List.map_cons, List.map_nil]); first | done | rfl | (simp only [List.length_drop, List.length_take]; rfl)) ?_; (with_reducible refine (easementref16_Same.calls k _ _ t311 _ _ t307 true _ ?side1 ?side2 ?side3 ?side4 A9.out).mono ?_); (case side1 => repeat (first | exact (Kd.R_reads' HO313.out).2.2 | (with_reducible refine Kd.C_alloc ?_ _) | (with_reducible refine Kd.C_drewN ?_ _) | (with_reducible refine Kd.C_drew ?_))); (case side2 => exact (Kd.R_reads' HO313.out).2.1); (case side3 => repeat (first | exact (Kd.R_reads' HO309.out).2.2 | (with_reducible refine Kd.C_alloc ?_ _) | (with_reducible refine Kd.C_drewN ?_ _) | (with_reducible refine Kd.C_drew ?_))); (case side4 => exact (Kd.R_reads' HO309.out).2.1); rintro e w' ⟨rfl, ⟨nd, rfl⟩⟩; refine ⟨_, rfl, ?_⟩; have hcz25_0 : w22.cell? ⟨gb300, 0, none⟩ = some (.int .i64 a0_0) := (bC BK300.out 0).trans rfl; have hcz25_1 : w22.cell? ⟨gb300, 1, none⟩ = some (.int .i64 a0_1) := (bC BK300.out 1).trans rfl; have hcz25_2 : w22.cell? ⟨gb300, 2, none⟩ = some (.int .i64 a0_2) := (bC BK300.out 2).trans rfl; have hcz25_3 : w22.cell? ⟨gb300, 3, none⟩ = some (.int .i64 a0_3) := (bC BK300.out 3).trans rfl; have hcz25_4 : w22.cell? ⟨gb300, 4, none⟩ = some (.bool a0_4) := (bC BK300.out 4).trans rfl; have hfz25_0 := bB BK300.out 0; have hfz25_1 := bB BK300.out 1; have hfz25_2 := bB BK300.out 2; have hfz25_3 := bB BK300.out 3; have hfz25_4 := bB BK300.out 4) | (go_at_call 40; (with_reducible refine (stmt_Check.calls k a0_0 a0_1 a0_2 a0_3 a0_4 _ _ l1 a2 t315 _ ?side1 ?side2 A12.out).mono ?_); (case side1 => repeat (first | exact (Kd.bZ HR1.out (by repeat (first | (with_reducible first | exact HB.out | apply bE | apply bA | apply bD | refine bJ ?_ GE300.out) | exact HB.out))) | (with_reducible refine Kd.C_alloc ?_ _) | (with_reducible refine Kd.C_drewN ?_ _) | (with_reducible refine Kd.C_drew ?_))); (case side2 => exact HC1.out); rintro e w26 ⟨rfl, hb⟩; have n0_ := Aside0.mk (Kd.R_below (by (with_reducible repeat (first | apply Kd.R_alloc | apply Kd.R_drewN | apply Kd.R_drew)); exact HO305.out) hb); have n1_ := Aside0.mk (Kd.R_below (by (with_reducible repeat (first | apply Kd.R_alloc | apply Kd.R_drewN | apply Kd.R_drew)); exact HO309.out) hb); have n2_ := Aside0.mk (Kd.R_below (by (with_reducible repeat (first | apply Kd.R_alloc | apply Kd.R_drewN | apply Kd.R_drew)); exact HO313.out) hb); have n3_ := Aside0.mk (bU (g := gb300) (o := .cells #[.int .i64 a0_0, .int .i64 a0_1, .int .i64 a0_2, .int .i64 a0_3, .bool a0_4] 23 (0, 0)) (by (with_reducible repeat (first | refine bG ?_ _ | refine bH ?_ | refine bF ?_ _)); exact BK300.out) hb); have n4_ := Aside0.mk (bP (by repeat (first | (with_reducible first | exact HB.out | apply bE | apply bA | apply bD | refine bJ ?_ GE300.out) | exact HB.out)) hb); clear HO305; clear HO309; clear HO313; clear BK300; clear HB; have HO305 := n0_; have HO309 := n1_; have HO313 := n2_; have BK300 := n3_; have HB := n4_; clear n0_ n1_ n2_ n3_ n4_; (try clear hb); (try clear hb2); (try clear hk); (try clear hi)) | (go_at_call 12; (with_reducible refine (easementlaw18_awake.calls k  t316 _ A14.out).mono ?_); rintro e w27 ⟨rfl, hb⟩; have n0_ := Aside0.mk (Kd.R_below (by (with_reducible repeat (first | apply Kd.R_alloc | apply Kd.R_drewN | apply Kd.R_drew)); exact HO305.out) hb); have n1_ := Aside0.mk (Kd.R_below (by (with_reducible repeat (first | apply Kd.R_alloc | apply Kd.R_drewN | apply Kd.R_drew)); exact HO309.out) hb); have n2_ := Aside0.mk (Kd.R_below (by (with_reducible repeat (first | apply Kd.R_alloc | apply Kd.R_drewN | apply Kd.R_drew)); exact HO313.out) hb); have n3_ := Aside0.mk (bU (g := gb300) (o := .cells #[.int .i64 a0_0, .int .i64 a0_1, .int .i64 a0_2, .int .i64 a0_3, .bool a0_4] 23 (0, 0)) (by (with_reducible repeat (first | refine bG ?_ _ | refine bH ?_ | refine bF ?_ _)); exact BK300.out) hb); have n4_ := Aside0.mk (bP (by repeat (first | (with_reducible first | exact HB.out | apply bE | apply bA | apply bD | refine bJ ?_ GE300.out) | exact HB.out)) hb); clear HO305; clear HO309; clear HO313; clear BK300; clear HB; have HO305 := n0_; have HO309 := n1_; have HO313 := n2_; have BK300 := n3_; have HB := n4_; clear n0_ n1_ n2_ n3_ n4_; (try clear hb); (try clear hb2); (try clear hk); (try clear hi)))
     go_ret
     exact ⟨by first | rfl | (simp [errW_none, errW_some] <;> rfl) | (simp [*, errW_none, errW_some] <;> rfl), by repeat (first | (with_reducible first | exact HB.out | apply bE | apply bA | apply bD | refine bJ ?_ GE300.out) | exact HB.out)⟩
    ·rw [if_neg c13] at H
     have c13b0 : (t315 == t310) = false := beq_eq_false_iff_ne.mpr c13
     have c13b1 : (t315 != t310) = true := bne_iff_ne.mpr c13
     obtain rfl := Option.some.inj H
     go_enter Try.func8, Try.ntmps8
     go_wp2_with (first | ((with_reducible refine bT (N := 3) rfl ?_); refine bS ?hg (N := 3) ?hd (cs := #[.int .i64 a0_0, .int .i64 a0_1, .int .i64 a0_2, .int .i64 a0_3, .bool a0_4]) (t := 23) ?hr ?_; (case hd => rfl); (case hg => rfl); (case hr => first | (go_simp; done) | (go_simp; rfl)); intro gb300 hg w28 hbox hb; have n0_ := Aside0.mk (bP (by repeat (first | (with_reducible first | exact HB.out | apply bE | apply bA | apply bD) | exact HB.out)) hb); have n1_ := Aside0.mk (hbox); have n2_ := Aside0.mk ((by rw [hg]; exact (bK (by repeat (first | (with_reducible first | exact HB.out | apply bE | apply bA | apply bD) | exact HB.out))) : w.heap.size ≤ gb300)); have n3_ := Aside0.mk ((by rw [hg]; exact (bK (by repeat (first | (with_reducible first | exact HB.out | apply bE | apply bA | apply bD) | exact HB.out))) : w.heap.size ≤ gb300)); clear HB; have HB := n0_; have BK300 := n1_; have GW300 := n2_; have GE300 := n3_; clear n0_ n1_ n2_ n3_; clear hb hbox hg) | ((with_reducible refine bV (f := 35) rfl ?_); refine goesL_ (some 12) rfl rfl Try.func35 (by kernel_rfl) rfl #[.slice A1 l1.length c1] rfl (by (try simp only [List.map_toArray, List.map_cons, List.map_nil]); first | done | rfl | (simp only [List.length_drop, List.length_take]; rfl)) ?_; (with_reducible refine (easementlaw18_few.calls k _ _ l1 true _ ?side1 ?side2 A4.out).mono ?_); (case side1 => repeat (first | exact (Kd.bZ HR1.out HB.out) | (with_reducible refine Kd.C_alloc ?_ _) | (with_reducible refine Kd.C_drewN ?_ _) | (with_reducible refine Kd.C_drew ?_))); (case side2 => exact HC1.out); rintro e w29 ⟨rfl, hb⟩; refine ⟨_, rfl, ?_⟩; have n0_ := Aside0.mk (bU (g := gb300) (o := .cells #[.int .i64 a0_0, .int .i64 a0_1, .int .i64 a0_2, .int .i64 a0_3, .bool a0_4] 23 (0, 0)) (by (with_reducible repeat (first | refine bG ?_ _ | refine bH ?_ | refine bF ?_ _)); exact BK300.out) hb); have n1_ := Aside0.mk (bP (by repeat (first | (with_reducible first | exact HB.out | apply bE | apply bA | apply bD | refine bJ ?_ GE300.out) | exact HB.out)) hb); clear BK300; clear HB; have BK300 := n0_; have HB := n1_; clear n0_ n1_; (try clear hb); (try clear hb2); (try clear hk); (try clear hi); have hcz30_0 : w29.cell? ⟨gb300, 0, none⟩ = some (.int .i64 a0_0) := (bC BK300.out 0).trans rfl; have hcz30_1 : w29.cell? ⟨gb300, 1, none⟩ = some (.int .i64 a0_1) := (bC BK300.out 1).trans rfl; have hcz30_2 : w29.cell? ⟨gb300, 2, none⟩ = some (.int .i64 a0_2) := (bC BK300.out 2).trans rfl; have hcz30_3 : w29.cell? ⟨gb300, 3, none⟩ = some (.int .i64 a0_3) := (bC BK300.out 3).trans rfl; have hcz30_4 : w29.cell? ⟨gb300, 4, none⟩ = some (.bool a0_4) := (bC BK300.out 4).trans rfl; have hfz30_0 := bB BK300.out 0; have hfz30_1 := bB BK300.out 1; have hfz30_2 := bB BK300.out 2; have hfz30_3 := bB BK300.out 3; have hfz30_4 := bB BK300.out 4) | ((with_reducible refine bV (f := 36) rfl ?_); refine goesL_ (some 19) rfl rfl Try.func36 (by kernel_rfl) rfl #[.agg #[.int .i64 a0_0, .int .i64 a0_1, .int .i64 a0_2, .int .i64 a0_3, .bool a0_4], .slice A1 l1.length c1, .int .i64 a2] rfl (by (try simp only [List.map_toArray, List.map_cons, List.map_nil]); first | done | rfl | (simp only [List.length_drop, List.length_take]; rfl)) ?_; (with_reducible refine (stmt_Needs.calls k a0_0 a0_1 a0_2 a0_3 a0_4 _ _ l1 a2 t303 t306 _ ?side1 ?side2 A6.out).mono ?_); (case side1 => repeat (first | exact (Kd.bZ HR1.out HB.out) | (with_reducible refine Kd.C_alloc ?_ _) | (with_reducible refine Kd.C_drewN ?_ _) | (with_reducible refine Kd.C_drew ?_))); (case side2 => exact HC1.out); rintro e w31 ⟨v304, rfl, ho0, hb⟩; refine ⟨_, rfl, ?_⟩; have n0_ := Aside0.mk (Kd.R_lower ho0 (bK (by repeat (first | (with_reducible first | exact HB.out | apply bE | apply bA | apply bD | refine bJ ?_ GE300.out) | exact HB.out)))); have n1_ := Aside0.mk (bU (g := gb300) (o := .cells #[.int .i64 a0_0, .int .i64 a0_1, .int .i64 a0_2, .int .i64 a0_3, .bool a0_4] 23 (0, 0)) (by (with_reducible repeat (first | refine bG ?_ _ | refine bH ?_ | refine bF ?_ _)); exact BK300.out) hb); have n2_ := Aside0.mk (bP (by repeat (first | (with_reducible first | exact HB.out | apply bE | apply bA | apply bD | refine bJ ?_ GE300.out) | exact HB.out)) hb); clear BK300; clear HB; have HO305 := n0_; have BK300 := n1_; have HB := n2_; clear n0_ n1_ n2_; (try clear hb); (try clear hb2); (try clear hk); (try clear hi); (try clear ho0); have hcz32_0 : w31.cell? ⟨gb300, 0, none⟩ = some (.int .i64 a0_0) := (bC BK300.out 0).trans rfl; have hcz32_1 : w31.cell? ⟨gb300, 1, none⟩ = some (.int .i64 a0_1) := (bC BK300.out 1).trans rfl; have hcz32_2 : w31.cell? ⟨gb300, 2, none⟩ = some (.int .i64 a0_2) := (bC BK300.out 2).trans rfl; have hcz32_3 : w31.cell? ⟨gb300, 3, none⟩ = some (.int .i64 a0_3) := (bC BK300.out 3).trans rfl; have hcz32_4 : w31.cell? ⟨gb300, 4, none⟩ = some (.bool a0_4) := (bC BK300.out 4).trans rfl; have hfz32_0 := bB BK300.out 0; have hfz32_1 := bB BK300.out 1; have hfz32_2 := bB BK300.out 2; have hfz32_3 := bB BK300.out 3; have hfz32_4 := bB BK300.out 4) | ((with_reducible refine bV (f := 37) rfl ?_); refine goesL_ (some 26) rfl rfl Try.func37 (by kernel_rfl) rfl #[.agg #[.int .i64 a0_0, .int .i64 a0_1, .int .i64 a0_2, .int .i64 a0_3, .bool a0_4], .slice A1 l1.length c1, .int .i64 a2] rfl (by (try simp only [List.map_toArray, List.map_cons, List.map_nil]); first | done | rfl | (simp only [List.length_drop, List.length_take]; rfl)) ?_; (with_reducible refine (easementref18_Needs.calls k a0_0 a0_1 a0_2 a0_3 a0_4 _ _ l1 a2 t307 t310 _ ?side1 ?side2 A7.out).mono ?_); (case side1 => repeat (first | exact (Kd.bZ HR1.out HB.out) | (with_reducible refine Kd.C_alloc ?_ _) | (with_reducible refine Kd.C_drewN ?_ _) | (with_reducible refine Kd.C_drew ?_))); (case side2 => exact HC1.out); rintro e w33 ⟨v308, rfl, ho0, hb⟩; refine ⟨_, rfl, ?_⟩; have n0_ := Aside0.mk (Kd.R_below (by (with_reducible repeat (first | apply Kd.R_alloc | apply Kd.R_drewN | apply Kd.R_drew)); exact HO305.out) hb); have n1_ := Aside0.mk (Kd.R_lower ho0 (bK (by repeat (first | (with_reducible first | exact HB.out | apply bE | apply bA | apply bD | refine bJ ?_ GE300.out) | exact HB.out)))); have n2_ := Aside0.mk (bU (g := gb300) (o := .cells #[.int .i64 a0_0, .int .i64 a0_1, .int .i64 a0_2, .int .i64 a0_3, .bool a0_4] 23 (0, 0)) (by (with_reducible repeat (first | refine bG ?_ _ | refine bH ?_ | refine bF ?_ _)); exact BK300.out) hb); have n3_ := Aside0.mk (bP (by repeat (first | (with_reducible first | exact HB.out | apply bE | apply bA | apply bD | refine bJ ?_ GE300.out) | exact HB.out)) hb); clear HO305; clear BK300; clear HB; have HO305 := n0_; have HO309 := n1_; have BK300 := n2_; have HB := n3_; clear n0_ n1_ n2_ n3_; (try clear hb); (try clear hb2); (try clear hk); (try clear hi); (try clear ho0); obtain ⟨Ao34, co34, eo34⟩ := Kd.R_slice HO305.out; subst eo34) | ((with_reducible refine bV (f := 39) rfl ?_); refine goesL_ (some 30) rfl rfl Try.func39 (by kernel_rfl) rfl #[.slice Ao34 t303.length co34] rfl (by (try simp only [List.map_toArray, List.map_cons, List.map_nil]); first | done | rfl | (simp only [List.length_drop, List.length_take]; rfl)) ?_; (with_reducible refine (easementlaw16_Doc.calls k _ _ t303 t311 _ ?side1 ?side2 A8.out).mono ?_); (case side1 => repeat (first | exact (Kd.R_reads' HO305.out).2.2 | (with_reducible refine Kd.C_alloc ?_ _) | (with_reducible refine Kd.C_drewN ?_ _) | (with_reducible refine Kd.C_drew ?_))); (case side2 => exact (Kd.R_reads' HO305.out).2.1); rintro e w35 ⟨v312, rfl, ho0, hb⟩; refine ⟨_, rfl, ?_⟩; have n0_ := Aside0.mk (Kd.R_below (by (with_reducible repeat (first | apply Kd.R_alloc | apply Kd.R_drewN | apply Kd.R_drew)); exact HO305.out) hb); have n1_ := Aside0.mk (Kd.R_elder' (by (with_reducible repeat (first | apply Kd.R_alloc | apply Kd.R_drewN | apply Kd.R_drew)); exact HO309.out) (Kd.R_base ho0) hb); have n2_ := Aside0.mk (Kd.R_lower (Kd.R_new' ho0 (Kd.R_lt (by (with_reducible repeat (first | apply Kd.R_alloc | apply Kd.R_drewN | apply Kd.R_drew)); exact HO309.out))) (bK (by repeat (first | (with_reducible first | exact HB.out | apply bE | apply bA | apply bD | refine bJ ?_ GE300.out) | exact HB.out)))); have n3_ := Aside0.mk (bU (g := gb300) (o := .cells #[.int .i64 a0_0, .int .i64 a0_1, .int .i64 a0_2, .int .i64 a0_3, .bool a0_4] 23 (0, 0)) (by (with_reducible repeat (first | refine bG ?_ _ | refine bH ?_ | refine bF ?_ _)); exact BK300.out) hb); have n4_ := Aside0.mk (bP (by repeat (first | (with_reducible first | exact HB.out | apply bE | apply bA | apply bD | refine bJ ?_ GE300.out) | exact HB.out)) hb); clear HO305; clear HO309; clear BK300; clear HB; have HO305 := n0_; have HO309 := n1_; have HO313 := n2_; have BK300 := n3_; have HB := n4_; clear n0_ n1_ n2_ n3_ n4_; (try clear hb); (try clear hb2); (try clear hk); (try clear hi); (try clear ho0); obtain ⟨Ao36, co36, eo36⟩ := Kd.R_slice HO313.out; subst eo36; obtain ⟨Ao37, co37, eo37⟩ := Kd.R_slice HO309.out; subst eo37) | ((with_reducible refine bV (f := 38) rfl ?_); refine goesL_ (some 32) rfl rfl Try.func38 (by kernel_rfl) rfl #[.slice Ao36 t311.length co36, .slice Ao37 t307.length co37] rfl (by (try simp only [List.map_toArray, List.map_cons, List.map_nil]); first | done | rfl | (simp only [List.length_drop, List.length_take]; rfl)) ?_; (with_reducible refine (easementref16_Same.calls k _ _ t311 _ _ t307 true _ ?side1 ?side2 ?side3 ?side4 A9.out).mono ?_); (case side1 => repeat (first | exact (Kd.R_reads' HO313.out).2.2 | (with_reducible refine Kd.C_alloc ?_ _) | (with_reducible refine Kd.C_drewN ?_ _) | (with_reducible refine Kd.C_drew ?_))); (case side2 => exact (Kd.R_reads' HO313.out).2.1); (case side3 => repeat (first | exact (Kd.R_reads' HO309.out).2.2 | (with_reducible refine Kd.C_alloc ?_ _) | (with_reducible refine Kd.C_drewN ?_ _) | (with_reducible refine Kd.C_drew ?_))); (case side4 => exact (Kd.R_reads' HO309.out).2.1); rintro e w' ⟨rfl, ⟨nd, rfl⟩⟩; refine ⟨_, rfl, ?_⟩; have hcz38_0 : w35.cell? ⟨gb300, 0, none⟩ = some (.int .i64 a0_0) := (bC BK300.out 0).trans rfl; have hcz38_1 : w35.cell? ⟨gb300, 1, none⟩ = some (.int .i64 a0_1) := (bC BK300.out 1).trans rfl; have hcz38_2 : w35.cell? ⟨gb300, 2, none⟩ = some (.int .i64 a0_2) := (bC BK300.out 2).trans rfl; have hcz38_3 : w35.cell? ⟨gb300, 3, none⟩ = some (.int .i64 a0_3) := (bC BK300.out 3).trans rfl; have hcz38_4 : w35.cell? ⟨gb300, 4, none⟩ = some (.bool a0_4) := (bC BK300.out 4).trans rfl; have hfz38_0 := bB BK300.out 0; have hfz38_1 := bB BK300.out 1; have hfz38_2 := bB BK300.out 2; have hfz38_3 := bB BK300.out 3; have hfz38_4 := bB BK300.out 4) | (go_at_call 40; (with_reducible refine (stmt_Check.calls k a0_0 a0_1 a0_2 a0_3 a0_4 _ _ l1 a2 t315 _ ?side1 ?side2 A12.out).mono ?_); (case side1 => repeat (first | exact (Kd.bZ HR1.out (by repeat (first | (with_reducible first | exact HB.out | apply bE | apply bA | apply bD | refine bJ ?_ GE300.out) | exact HB.out))) | (with_reducible refine Kd.C_alloc ?_ _) | (with_reducible refine Kd.C_drewN ?_ _) | (with_reducible refine Kd.C_drew ?_))); (case side2 => exact HC1.out); rintro e w39 ⟨rfl, hb⟩; have n0_ := Aside0.mk (Kd.R_below (by (with_reducible repeat (first | apply Kd.R_alloc | apply Kd.R_drewN | apply Kd.R_drew)); exact HO305.out) hb); have n1_ := Aside0.mk (Kd.R_below (by (with_reducible repeat (first | apply Kd.R_alloc | apply Kd.R_drewN | apply Kd.R_drew)); exact HO309.out) hb); have n2_ := Aside0.mk (Kd.R_below (by (with_reducible repeat (first | apply Kd.R_alloc | apply Kd.R_drewN | apply Kd.R_drew)); exact HO313.out) hb); have n3_ := Aside0.mk (bU (g := gb300) (o := .cells #[.int .i64 a0_0, .int .i64 a0_1, .int .i64 a0_2, .int .i64 a0_3, .bool a0_4] 23 (0, 0)) (by (with_reducible repeat (first | refine bG ?_ _ | refine bH ?_ | refine bF ?_ _)); exact BK300.out) hb); have n4_ := Aside0.mk (bP (by repeat (first | (with_reducible first | exact HB.out | apply bE | apply bA | apply bD | refine bJ ?_ GE300.out) | exact HB.out)) hb); clear HO305; clear HO309; clear HO313; clear BK300; clear HB; have HO305 := n0_; have HO309 := n1_; have HO313 := n2_; have BK300 := n3_; have HB := n4_; clear n0_ n1_ n2_ n3_ n4_; (try clear hb); (try clear hb2); (try clear hk); (try clear hi)))
     go_ret
     exact ⟨by first | rfl | (simp [errW_none, errW_some] <;> rfl) | (simp [*, errW_none, errW_some] <;> rfl), by repeat (first | (with_reducible first | exact HB.out | apply bE | apply bA | apply bD | refine bJ ?_ GE300.out) | exact HB.out)⟩
   ·rw [if_neg c11] at H
    have c11b0 : (t306 == t310) = false := beq_eq_false_iff_ne.mpr c11
    have c11b1 : (t306 != t310) = true := bne_iff_ne.mpr c11
    obtain rfl := Option.some.inj H
    go_enter Try.func8, Try.ntmps8
    go_wp2_with (first | ((with_reducible refine bT (N := 3) rfl ?_); refine bS ?hg (N := 3) ?hd (cs := #[.int .i64 a0_0, .int .i64 a0_1, .int .i64 a0_2, .int .i64 a0_3, .bool a0_4]) (t := 23) ?hr ?_; (case hd => rfl); (case hg => rfl); (case hr => first | (go_simp; done) | (go_simp; rfl)); intro gb300 hg w40 hbox hb; have n0_ := Aside0.mk (bP (by repeat (first | (with_reducible first | exact HB.out | apply bE | apply bA | apply bD) | exact HB.out)) hb); have n1_ := Aside0.mk (hbox); have n2_ := Aside0.mk ((by rw [hg]; exact (bK (by repeat (first | (with_reducible first | exact HB.out | apply bE | apply bA | apply bD) | exact HB.out))) : w.heap.size ≤ gb300)); have n3_ := Aside0.mk ((by rw [hg]; exact (bK (by repeat (first | (with_reducible first | exact HB.out | apply bE | apply bA | apply bD) | exact HB.out))) : w.heap.size ≤ gb300)); clear HB; have HB := n0_; have BK300 := n1_; have GW300 := n2_; have GE300 := n3_; clear n0_ n1_ n2_ n3_; clear hb hbox hg) | ((with_reducible refine bV (f := 35) rfl ?_); refine goesL_ (some 12) rfl rfl Try.func35 (by kernel_rfl) rfl #[.slice A1 l1.length c1] rfl (by (try simp only [List.map_toArray, List.map_cons, List.map_nil]); first | done | rfl | (simp only [List.length_drop, List.length_take]; rfl)) ?_; (with_reducible refine (easementlaw18_few.calls k _ _ l1 true _ ?side1 ?side2 A4.out).mono ?_); (case side1 => repeat (first | exact (Kd.bZ HR1.out HB.out) | (with_reducible refine Kd.C_alloc ?_ _) | (with_reducible refine Kd.C_drewN ?_ _) | (with_reducible refine Kd.C_drew ?_))); (case side2 => exact HC1.out); rintro e w41 ⟨rfl, hb⟩; refine ⟨_, rfl, ?_⟩; have n0_ := Aside0.mk (bU (g := gb300) (o := .cells #[.int .i64 a0_0, .int .i64 a0_1, .int .i64 a0_2, .int .i64 a0_3, .bool a0_4] 23 (0, 0)) (by (with_reducible repeat (first | refine bG ?_ _ | refine bH ?_ | refine bF ?_ _)); exact BK300.out) hb); have n1_ := Aside0.mk (bP (by repeat (first | (with_reducible first | exact HB.out | apply bE | apply bA | apply bD | refine bJ ?_ GE300.out) | exact HB.out)) hb); clear BK300; clear HB; have BK300 := n0_; have HB := n1_; clear n0_ n1_; (try clear hb); (try clear hb2); (try clear hk); (try clear hi); have hcz42_0 : w41.cell? ⟨gb300, 0, none⟩ = some (.int .i64 a0_0) := (bC BK300.out 0).trans rfl; have hcz42_1 : w41.cell? ⟨gb300, 1, none⟩ = some (.int .i64 a0_1) := (bC BK300.out 1).trans rfl; have hcz42_2 : w41.cell? ⟨gb300, 2, none⟩ = some (.int .i64 a0_2) := (bC BK300.out 2).trans rfl; have hcz42_3 : w41.cell? ⟨gb300, 3, none⟩ = some (.int .i64 a0_3) := (bC BK300.out 3).trans rfl; have hcz42_4 : w41.cell? ⟨gb300, 4, none⟩ = some (.bool a0_4) := (bC BK300.out 4).trans rfl; have hfz42_0 := bB BK300.out 0; have hfz42_1 := bB BK300.out 1; have hfz42_2 := bB BK300.out 2; have hfz42_3 := bB BK300.out 3; have hfz42_4 := bB BK300.out 4) | ((with_reducible refine bV (f := 36) rfl ?_); refine goesL_ (some 19) rfl rfl Try.func36 (by kernel_rfl) rfl #[.agg #[.int .i64 a0_0, .int .i64 a0_1, .int .i64 a0_2, .int .i64 a0_3, .bool a0_4], .slice A1 l1.length c1, .int .i64 a2] rfl (by (try simp only [List.map_toArray, List.map_cons, List.map_nil]); first | done | rfl | (simp only [List.length_drop, List.length_take]; rfl)) ?_; (with_reducible refine (stmt_Needs.calls k a0_0 a0_1 a0_2 a0_3 a0_4 _ _ l1 a2 t303 t306 _ ?side1 ?side2 A6.out).mono ?_); (case side1 => repeat (first | exact (Kd.bZ HR1.out HB.out) | (with_reducible refine Kd.C_alloc ?_ _) | (with_reducible refine Kd.C_drewN ?_ _) | (with_reducible refine Kd.C_drew ?_))); (case side2 => exact HC1.out); rintro e w43 ⟨v304, rfl, ho0, hb⟩; refine ⟨_, rfl, ?_⟩; have n0_ := Aside0.mk (Kd.R_lower ho0 (bK (by repeat (first | (with_reducible first | exact HB.out | apply bE | apply bA | apply bD | refine bJ ?_ GE300.out) | exact HB.out)))); have n1_ := Aside0.mk (bU (g := gb300) (o := .cells #[.int .i64 a0_0, .int .i64 a0_1, .int .i64 a0_2, .int .i64 a0_3, .bool a0_4] 23 (0, 0)) (by (with_reducible repeat (first | refine bG ?_ _ | refine bH ?_ | refine bF ?_ _)); exact BK300.out) hb); have n2_ := Aside0.mk (bP (by repeat (first | (with_reducible first | exact HB.out | apply bE | apply bA | apply bD | refine bJ ?_ GE300.out) | exact HB.out)) hb); clear BK300; clear HB; have HO305 := n0_; have BK300 := n1_; have HB := n2_; clear n0_ n1_ n2_; (try clear hb); (try clear hb2); (try clear hk); (try clear hi); (try clear ho0); have hcz44_0 : w43.cell? ⟨gb300, 0, none⟩ = some (.int .i64 a0_0) := (bC BK300.out 0).trans rfl; have hcz44_1 : w43.cell? ⟨gb300, 1, none⟩ = some (.int .i64 a0_1) := (bC BK300.out 1).trans rfl; have hcz44_2 : w43.cell? ⟨gb300, 2, none⟩ = some (.int .i64 a0_2) := (bC BK300.out 2).trans rfl; have hcz44_3 : w43.cell? ⟨gb300, 3, none⟩ = some (.int .i64 a0_3) := (bC BK300.out 3).trans rfl; have hcz44_4 : w43.cell? ⟨gb300, 4, none⟩ = some (.bool a0_4) := (bC BK300.out 4).trans rfl; have hfz44_0 := bB BK300.out 0; have hfz44_1 := bB BK300.out 1; have hfz44_2 := bB BK300.out 2; have hfz44_3 := bB BK300.out 3; have hfz44_4 := bB BK300.out 4) | ((with_reducible refine bV (f := 37) rfl ?_); refine goesL_ (some 26) rfl rfl Try.func37 (by kernel_rfl) rfl #[.agg #[.int .i64 a0_0, .int .i64 a0_1, .int .i64 a0_2, .int .i64 a0_3, .bool a0_4], .slice A1 l1.length c1, .int .i64 a2] rfl (by (try simp only [List.map_toArray, List.map_cons, List.map_nil]); first | done | rfl | (simp only [List.length_drop, List.length_take]; rfl)) ?_; (with_reducible refine (easementref18_Needs.calls k a0_0 a0_1 a0_2 a0_3 a0_4 _ _ l1 a2 t307 t310 _ ?side1 ?side2 A7.out).mono ?_); (case side1 => repeat (first | exact (Kd.bZ HR1.out HB.out) | (with_reducible refine Kd.C_alloc ?_ _) | (with_reducible refine Kd.C_drewN ?_ _) | (with_reducible refine Kd.C_drew ?_))); (case side2 => exact HC1.out); rintro e w45 ⟨v308, rfl, ho0, hb⟩; refine ⟨_, rfl, ?_⟩; have n0_ := Aside0.mk (Kd.R_below (by (with_reducible repeat (first | apply Kd.R_alloc | apply Kd.R_drewN | apply Kd.R_drew)); exact HO305.out) hb); have n1_ := Aside0.mk (Kd.R_lower ho0 (bK (by repeat (first | (with_reducible first | exact HB.out | apply bE | apply bA | apply bD | refine bJ ?_ GE300.out) | exact HB.out)))); have n2_ := Aside0.mk (bU (g := gb300) (o := .cells #[.int .i64 a0_0, .int .i64 a0_1, .int .i64 a0_2, .int .i64 a0_3, .bool a0_4] 23 (0, 0)) (by (with_reducible repeat (first | refine bG ?_ _ | refine bH ?_ | refine bF ?_ _)); exact BK300.out) hb); have n3_ := Aside0.mk (bP (by repeat (first | (with_reducible first | exact HB.out | apply bE | apply bA | apply bD | refine bJ ?_ GE300.out) | exact HB.out)) hb); clear HO305; clear BK300; clear HB; have HO305 := n0_; have HO309 := n1_; have BK300 := n2_; have HB := n3_; clear n0_ n1_ n2_ n3_; (try clear hb); (try clear hb2); (try clear hk); (try clear hi); (try clear ho0); obtain ⟨Ao46, co46, eo46⟩ := Kd.R_slice HO305.out; subst eo46) | ((with_reducible refine bV (f := 39) rfl ?_); refine goesL_ (some 30) rfl rfl Try.func39 (by kernel_rfl) rfl #[.slice Ao46 t303.length co46] rfl (by (try simp only [List.map_toArray, List.map_cons, List.map_nil]); first | done | rfl | (simp only [List.length_drop, List.length_take]; rfl)) ?_; (with_reducible refine (easementlaw16_Doc.calls k _ _ t303 t311 _ ?side1 ?side2 A8.out).mono ?_); (case side1 => repeat (first | exact (Kd.R_reads' HO305.out).2.2 | (with_reducible refine Kd.C_alloc ?_ _) | (with_reducible refine Kd.C_drewN ?_ _) | (with_reducible refine Kd.C_drew ?_))); (case side2 => exact (Kd.R_reads' HO305.out).2.1); rintro e w47 ⟨v312, rfl, ho0, hb⟩; refine ⟨_, rfl, ?_⟩; have n0_ := Aside0.mk (Kd.R_below (by (with_reducible repeat (first | apply Kd.R_alloc | apply Kd.R_drewN | apply Kd.R_drew)); exact HO305.out) hb); have n1_ := Aside0.mk (Kd.R_elder' (by (with_reducible repeat (first | apply Kd.R_alloc | apply Kd.R_drewN | apply Kd.R_drew)); exact HO309.out) (Kd.R_base ho0) hb); have n2_ := Aside0.mk (Kd.R_lower (Kd.R_new' ho0 (Kd.R_lt (by (with_reducible repeat (first | apply Kd.R_alloc | apply Kd.R_drewN | apply Kd.R_drew)); exact HO309.out))) (bK (by repeat (first | (with_reducible first | exact HB.out | apply bE | apply bA | apply bD | refine bJ ?_ GE300.out) | exact HB.out)))); have n3_ := Aside0.mk (bU (g := gb300) (o := .cells #[.int .i64 a0_0, .int .i64 a0_1, .int .i64 a0_2, .int .i64 a0_3, .bool a0_4] 23 (0, 0)) (by (with_reducible repeat (first | refine bG ?_ _ | refine bH ?_ | refine bF ?_ _)); exact BK300.out) hb); have n4_ := Aside0.mk (bP (by repeat (first | (with_reducible first | exact HB.out | apply bE | apply bA | apply bD | refine bJ ?_ GE300.out) | exact HB.out)) hb); clear HO305; clear HO309; clear BK300; clear HB; have HO305 := n0_; have HO309 := n1_; have HO313 := n2_; have BK300 := n3_; have HB := n4_; clear n0_ n1_ n2_ n3_ n4_; (try clear hb); (try clear hb2); (try clear hk); (try clear hi); (try clear ho0); obtain ⟨Ao48, co48, eo48⟩ := Kd.R_slice HO313.out; subst eo48; obtain ⟨Ao49, co49, eo49⟩ := Kd.R_slice HO309.out; subst eo49) | ((with_reducible refine bV (f := 38) rfl ?_); refine goesL_ (some 32) rfl rfl Try.func38 (by kernel_rfl) rfl #[.slice Ao48 t311.length co48, .slice Ao49 t307.length co49] rfl (by (try simp only [List.map_toArray, List.map_cons, List.map_nil]); first | done | rfl | (simp only [List.length_drop, List.length_take]; rfl)) ?_; (with_reducible refine (easementref16_Same.calls k _ _ t311 _ _ t307 true _ ?side1 ?side2 ?side3 ?side4 A9.out).mono ?_); (case side1 => repeat (first | exact (Kd.R_reads' HO313.out).2.2 | (with_reducible refine Kd.C_alloc ?_ _) | (with_reducible refine Kd.C_drewN ?_ _) | (with_reducible refine Kd.C_drew ?_))); (case side2 => exact (Kd.R_reads' HO313.out).2.1); (case side3 => repeat (first | exact (Kd.R_reads' HO309.out).2.2 | (with_reducible refine Kd.C_alloc ?_ _) | (with_reducible refine Kd.C_drewN ?_ _) | (with_reducible refine Kd.C_drew ?_))); (case side4 => exact (Kd.R_reads' HO309.out).2.1); rintro e w' ⟨rfl, ⟨nd, rfl⟩⟩; refine ⟨_, rfl, ?_⟩))
    go_ret
    exact ⟨by first | rfl | (simp [errW_none, errW_some] <;> rfl) | (simp [*, errW_none, errW_some] <;> rfl), by repeat (first | (with_reducible first | exact HB.out | apply bE | apply bA | apply bD | refine bJ ?_ GE300.out) | exact HB.out)⟩
  ·replace c10 := Bool.eq_false_iff.mpr c10
   subst c10
   have H1 : (some false) = some r := by rw [if_neg (show ¬ (false = true) by decide)] at H; exact H
   clear H
   have H := H1
   clear H1
   obtain rfl := Option.some.inj H
   go_enter Try.func8, Try.ntmps8
   go_wp2_with (first | ((with_reducible refine bT (N := 3) rfl ?_); refine bS ?hg (N := 3) ?hd (cs := #[.int .i64 a0_0, .int .i64 a0_1, .int .i64 a0_2, .int .i64 a0_3, .bool a0_4]) (t := 23) ?hr ?_; (case hd => rfl); (case hg => rfl); (case hr => first | (go_simp; done) | (go_simp; rfl)); intro gb300 hg w50 hbox hb; have n0_ := Aside0.mk (bP (by repeat (first | (with_reducible first | exact HB.out | apply bE | apply bA | apply bD) | exact HB.out)) hb); have n1_ := Aside0.mk (hbox); have n2_ := Aside0.mk ((by rw [hg]; exact (bK (by repeat (first | (with_reducible first | exact HB.out | apply bE | apply bA | apply bD) | exact HB.out))) : w.heap.size ≤ gb300)); have n3_ := Aside0.mk ((by rw [hg]; exact (bK (by repeat (first | (with_reducible first | exact HB.out | apply bE | apply bA | apply bD) | exact HB.out))) : w.heap.size ≤ gb300)); clear HB; have HB := n0_; have BK300 := n1_; have GW300 := n2_; have GE300 := n3_; clear n0_ n1_ n2_ n3_; clear hb hbox hg) | ((with_reducible refine bV (f := 35) rfl ?_); refine goesL_ (some 12) rfl rfl Try.func35 (by kernel_rfl) rfl #[.slice A1 l1.length c1] rfl (by (try simp only [List.map_toArray, List.map_cons, List.map_nil]); first | done | rfl | (simp only [List.length_drop, List.length_take]; rfl)) ?_; (with_reducible refine (easementlaw18_few.calls k _ _ l1 true _ ?side1 ?side2 A4.out).mono ?_); (case side1 => repeat (first | exact (Kd.bZ HR1.out HB.out) | (with_reducible refine Kd.C_alloc ?_ _) | (with_reducible refine Kd.C_drewN ?_ _) | (with_reducible refine Kd.C_drew ?_))); (case side2 => exact HC1.out); rintro e w51 ⟨rfl, hb⟩; refine ⟨_, rfl, ?_⟩; have n0_ := Aside0.mk (bU (g := gb300) (o := .cells #[.int .i64 a0_0, .int .i64 a0_1, .int .i64 a0_2, .int .i64 a0_3, .bool a0_4] 23 (0, 0)) (by (with_reducible repeat (first | refine bG ?_ _ | refine bH ?_ | refine bF ?_ _)); exact BK300.out) hb); have n1_ := Aside0.mk (bP (by repeat (first | (with_reducible first | exact HB.out | apply bE | apply bA | apply bD | refine bJ ?_ GE300.out) | exact HB.out)) hb); clear BK300; clear HB; have BK300 := n0_; have HB := n1_; clear n0_ n1_; (try clear hb); (try clear hb2); (try clear hk); (try clear hi); have hcz52_0 : w51.cell? ⟨gb300, 0, none⟩ = some (.int .i64 a0_0) := (bC BK300.out 0).trans rfl; have hcz52_1 : w51.cell? ⟨gb300, 1, none⟩ = some (.int .i64 a0_1) := (bC BK300.out 1).trans rfl; have hcz52_2 : w51.cell? ⟨gb300, 2, none⟩ = some (.int .i64 a0_2) := (bC BK300.out 2).trans rfl; have hcz52_3 : w51.cell? ⟨gb300, 3, none⟩ = some (.int .i64 a0_3) := (bC BK300.out 3).trans rfl; have hcz52_4 : w51.cell? ⟨gb300, 4, none⟩ = some (.bool a0_4) := (bC BK300.out 4).trans rfl; have hfz52_0 := bB BK300.out 0; have hfz52_1 := bB BK300.out 1; have hfz52_2 := bB BK300.out 2; have hfz52_3 := bB BK300.out 3; have hfz52_4 := bB BK300.out 4) | ((with_reducible refine bV (f := 36) rfl ?_); refine goesL_ (some 19) rfl rfl Try.func36 (by kernel_rfl) rfl #[.agg #[.int .i64 a0_0, .int .i64 a0_1, .int .i64 a0_2, .int .i64 a0_3, .bool a0_4], .slice A1 l1.length c1, .int .i64 a2] rfl (by (try simp only [List.map_toArray, List.map_cons, List.map_nil]); first | done | rfl | (simp only [List.length_drop, List.length_take]; rfl)) ?_; (with_reducible refine (stmt_Needs.calls k a0_0 a0_1 a0_2 a0_3 a0_4 _ _ l1 a2 t303 t306 _ ?side1 ?side2 A6.out).mono ?_); (case side1 => repeat (first | exact (Kd.bZ HR1.out HB.out) | (with_reducible refine Kd.C_alloc ?_ _) | (with_reducible refine Kd.C_drewN ?_ _) | (with_reducible refine Kd.C_drew ?_))); (case side2 => exact HC1.out); rintro e w53 ⟨v304, rfl, ho0, hb⟩; refine ⟨_, rfl, ?_⟩; have n0_ := Aside0.mk (Kd.R_lower ho0 (bK (by repeat (first | (with_reducible first | exact HB.out | apply bE | apply bA | apply bD | refine bJ ?_ GE300.out) | exact HB.out)))); have n1_ := Aside0.mk (bU (g := gb300) (o := .cells #[.int .i64 a0_0, .int .i64 a0_1, .int .i64 a0_2, .int .i64 a0_3, .bool a0_4] 23 (0, 0)) (by (with_reducible repeat (first | refine bG ?_ _ | refine bH ?_ | refine bF ?_ _)); exact BK300.out) hb); have n2_ := Aside0.mk (bP (by repeat (first | (with_reducible first | exact HB.out | apply bE | apply bA | apply bD | refine bJ ?_ GE300.out) | exact HB.out)) hb); clear BK300; clear HB; have HO305 := n0_; have BK300 := n1_; have HB := n2_; clear n0_ n1_ n2_; (try clear hb); (try clear hb2); (try clear hk); (try clear hi); (try clear ho0); have hcz54_0 : w53.cell? ⟨gb300, 0, none⟩ = some (.int .i64 a0_0) := (bC BK300.out 0).trans rfl; have hcz54_1 : w53.cell? ⟨gb300, 1, none⟩ = some (.int .i64 a0_1) := (bC BK300.out 1).trans rfl; have hcz54_2 : w53.cell? ⟨gb300, 2, none⟩ = some (.int .i64 a0_2) := (bC BK300.out 2).trans rfl; have hcz54_3 : w53.cell? ⟨gb300, 3, none⟩ = some (.int .i64 a0_3) := (bC BK300.out 3).trans rfl; have hcz54_4 : w53.cell? ⟨gb300, 4, none⟩ = some (.bool a0_4) := (bC BK300.out 4).trans rfl; have hfz54_0 := bB BK300.out 0; have hfz54_1 := bB BK300.out 1; have hfz54_2 := bB BK300.out 2; have hfz54_3 := bB BK300.out 3; have hfz54_4 := bB BK300.out 4) | ((with_reducible refine bV (f := 37) rfl ?_); refine goesL_ (some 26) rfl rfl Try.func37 (by kernel_rfl) rfl #[.agg #[.int .i64 a0_0, .int .i64 a0_1, .int .i64 a0_2, .int .i64 a0_3, .bool a0_4], .slice A1 l1.length c1, .int .i64 a2] rfl (by (try simp only [List.map_toArray, List.map_cons, List.map_nil]); first | done | rfl | (simp only [List.length_drop, List.length_take]; rfl)) ?_; (with_reducible refine (easementref18_Needs.calls k a0_0 a0_1 a0_2 a0_3 a0_4 _ _ l1 a2 t307 t310 _ ?side1 ?side2 A7.out).mono ?_); (case side1 => repeat (first | exact (Kd.bZ HR1.out HB.out) | (with_reducible refine Kd.C_alloc ?_ _) | (with_reducible refine Kd.C_drewN ?_ _) | (with_reducible refine Kd.C_drew ?_))); (case side2 => exact HC1.out); rintro e w55 ⟨v308, rfl, ho0, hb⟩; refine ⟨_, rfl, ?_⟩; have n0_ := Aside0.mk (Kd.R_below (by (with_reducible repeat (first | apply Kd.R_alloc | apply Kd.R_drewN | apply Kd.R_drew)); exact HO305.out) hb); have n1_ := Aside0.mk (Kd.R_lower ho0 (bK (by repeat (first | (with_reducible first | exact HB.out | apply bE | apply bA | apply bD | refine bJ ?_ GE300.out) | exact HB.out)))); have n2_ := Aside0.mk (bU (g := gb300) (o := .cells #[.int .i64 a0_0, .int .i64 a0_1, .int .i64 a0_2, .int .i64 a0_3, .bool a0_4] 23 (0, 0)) (by (with_reducible repeat (first | refine bG ?_ _ | refine bH ?_ | refine bF ?_ _)); exact BK300.out) hb); have n3_ := Aside0.mk (bP (by repeat (first | (with_reducible first | exact HB.out | apply bE | apply bA | apply bD | refine bJ ?_ GE300.out) | exact HB.out)) hb); clear HO305; clear BK300; clear HB; have HO305 := n0_; have HO309 := n1_; have BK300 := n2_; have HB := n3_; clear n0_ n1_ n2_ n3_; (try clear hb); (try clear hb2); (try clear hk); (try clear hi); (try clear ho0); obtain ⟨Ao56, co56, eo56⟩ := Kd.R_slice HO305.out; subst eo56) | ((with_reducible refine bV (f := 39) rfl ?_); refine goesL_ (some 30) rfl rfl Try.func39 (by kernel_rfl) rfl #[.slice Ao56 t303.length co56] rfl (by (try simp only [List.map_toArray, List.map_cons, List.map_nil]); first | done | rfl | (simp only [List.length_drop, List.length_take]; rfl)) ?_; (with_reducible refine (easementlaw16_Doc.calls k _ _ t303 t311 _ ?side1 ?side2 A8.out).mono ?_); (case side1 => repeat (first | exact (Kd.R_reads' HO305.out).2.2 | (with_reducible refine Kd.C_alloc ?_ _) | (with_reducible refine Kd.C_drewN ?_ _) | (with_reducible refine Kd.C_drew ?_))); (case side2 => exact (Kd.R_reads' HO305.out).2.1); rintro e w57 ⟨v312, rfl, ho0, hb⟩; refine ⟨_, rfl, ?_⟩; have n0_ := Aside0.mk (Kd.R_below (by (with_reducible repeat (first | apply Kd.R_alloc | apply Kd.R_drewN | apply Kd.R_drew)); exact HO305.out) hb); have n1_ := Aside0.mk (Kd.R_elder' (by (with_reducible repeat (first | apply Kd.R_alloc | apply Kd.R_drewN | apply Kd.R_drew)); exact HO309.out) (Kd.R_base ho0) hb); have n2_ := Aside0.mk (Kd.R_lower (Kd.R_new' ho0 (Kd.R_lt (by (with_reducible repeat (first | apply Kd.R_alloc | apply Kd.R_drewN | apply Kd.R_drew)); exact HO309.out))) (bK (by repeat (first | (with_reducible first | exact HB.out | apply bE | apply bA | apply bD | refine bJ ?_ GE300.out) | exact HB.out)))); have n3_ := Aside0.mk (bU (g := gb300) (o := .cells #[.int .i64 a0_0, .int .i64 a0_1, .int .i64 a0_2, .int .i64 a0_3, .bool a0_4] 23 (0, 0)) (by (with_reducible repeat (first | refine bG ?_ _ | refine bH ?_ | refine bF ?_ _)); exact BK300.out) hb); have n4_ := Aside0.mk (bP (by repeat (first | (with_reducible first | exact HB.out | apply bE | apply bA | apply bD | refine bJ ?_ GE300.out) | exact HB.out)) hb); clear HO305; clear HO309; clear BK300; clear HB; have HO305 := n0_; have HO309 := n1_; have HO313 := n2_; have BK300 := n3_; have HB := n4_; clear n0_ n1_ n2_ n3_ n4_; (try clear hb); (try clear hb2); (try clear hk); (try clear hi); (try clear ho0); obtain ⟨Ao58, co58, eo58⟩ := Kd.R_slice HO313.out; subst eo58; obtain ⟨Ao59, co59, eo59⟩ := Kd.R_slice HO309.out; subst eo59) | ((with_reducible refine bV (f := 38) rfl ?_); refine goesL_ (some 32) rfl rfl Try.func38 (by kernel_rfl) rfl #[.slice Ao58 t311.length co58, .slice Ao59 t307.length co59] rfl (by (try simp only [List.map_toArray, List.map_cons, List.map_nil]); first | done | rfl | (simp only [List.length_drop, List.length_take]; rfl)) ?_; (with_reducible refine (easementref16_Same.calls k _ _ t311 _ _ t307 false _ ?side1 ?side2 ?side3 ?side4 A9.out).mono ?_); (case side1 => repeat (first | exact (Kd.R_reads' HO313.out).2.2 | (with_reducible refine Kd.C_alloc ?_ _) | (with_reducible refine Kd.C_drewN ?_ _) | (with_reducible refine Kd.C_drew ?_))); (case side2 => exact (Kd.R_reads' HO313.out).2.1); (case side3 => repeat (first | exact (Kd.R_reads' HO309.out).2.2 | (with_reducible refine Kd.C_alloc ?_ _) | (with_reducible refine Kd.C_drewN ?_ _) | (with_reducible refine Kd.C_drew ?_))); (case side4 => exact (Kd.R_reads' HO309.out).2.1); rintro e w' ⟨rfl, ⟨nd, rfl⟩⟩; refine ⟨_, rfl, ?_⟩))
   go_ret
   exact ⟨by first | rfl | (simp [errW_none, errW_some] <;> rfl) | (simp [*, errW_none, errW_some] <;> rfl), by repeat (first | (with_reducible first | exact HB.out | apply bE | apply bA | apply bD | refine bJ ?_ GE300.out) | exact HB.out)⟩
 ·replace c5 := Bool.eq_false_iff.mpr c5
  subst c5
  have H1 : ((easementlaw18_awake.f k).bind fun t302 => (some t302)) = some r := by rw [if_neg (show ¬ (false = true) by decide)] at H; exact H
  clear H
  have H := H1
  clear H1
  replace H := Option.bind_eq_some_iff.mp H
  obtain ⟨t302, A600, H⟩ := H
  replace H : (some t302) = some r := H
  have A60 := Aside0.mk A600
  clear A600
  obtain rfl := Option.some.inj H
  go_enter Try.func8, Try.ntmps8
  go_wp2_with (first | ((with_reducible refine bT (N := 3) rfl ?_); refine bS ?hg (N := 3) ?hd (cs := #[.int .i64 a0_0, .int .i64 a0_1, .int .i64 a0_2, .int .i64 a0_3, .bool a0_4]) (t := 23) ?hr ?_; (case hd => rfl); (case hg => rfl); (case hr => first | (go_simp; done) | (go_simp; rfl)); intro gb300 hg w61 hbox hb; have n0_ := Aside0.mk (bP (by repeat (first | (with_reducible first | exact HB.out | apply bE | apply bA | apply bD) | exact HB.out)) hb); have n1_ := Aside0.mk (hbox); have n2_ := Aside0.mk ((by rw [hg]; exact (bK (by repeat (first | (with_reducible first | exact HB.out | apply bE | apply bA | apply bD) | exact HB.out))) : w.heap.size ≤ gb300)); have n3_ := Aside0.mk ((by rw [hg]; exact (bK (by repeat (first | (with_reducible first | exact HB.out | apply bE | apply bA | apply bD) | exact HB.out))) : w.heap.size ≤ gb300)); clear HB; have HB := n0_; have BK300 := n1_; have GW300 := n2_; have GE300 := n3_; clear n0_ n1_ n2_ n3_; clear hb hbox hg) | ((with_reducible refine bV (f := 35) rfl ?_); refine goesL_ (some 12) rfl rfl Try.func35 (by kernel_rfl) rfl #[.slice A1 l1.length c1] rfl (by (try simp only [List.map_toArray, List.map_cons, List.map_nil]); first | done | rfl | (simp only [List.length_drop, List.length_take]; rfl)) ?_; (with_reducible refine (easementlaw18_few.calls k _ _ l1 false _ ?side1 ?side2 A4.out).mono ?_); (case side1 => repeat (first | exact (Kd.bZ HR1.out HB.out) | (with_reducible refine Kd.C_alloc ?_ _) | (with_reducible refine Kd.C_drewN ?_ _) | (with_reducible refine Kd.C_drew ?_))); (case side2 => exact HC1.out); rintro e w62 ⟨rfl, hb⟩; refine ⟨_, rfl, ?_⟩; have n0_ := Aside0.mk (bU (g := gb300) (o := .cells #[.int .i64 a0_0, .int .i64 a0_1, .int .i64 a0_2, .int .i64 a0_3, .bool a0_4] 23 (0, 0)) (by (with_reducible repeat (first | refine bG ?_ _ | refine bH ?_ | refine bF ?_ _)); exact BK300.out) hb); have n1_ := Aside0.mk (bP (by repeat (first | (with_reducible first | exact HB.out | apply bE | apply bA | apply bD | refine bJ ?_ GE300.out) | exact HB.out)) hb); clear BK300; clear HB; have BK300 := n0_; have HB := n1_; clear n0_ n1_; (try clear hb); (try clear hb2); (try clear hk); (try clear hi)) | ((with_reducible refine bV (f := 12) rfl ?_); refine goesL_ (some 14) rfl rfl Try.func12 (by kernel_rfl) rfl #[] rfl (by (try simp only [List.map_toArray, List.map_cons, List.map_nil]); first | done | rfl | (simp only [List.length_drop, List.length_take]; rfl)) ?_; (with_reducible refine (easementlaw18_awake.calls k  t302 _ A60.out).mono ?_); rintro e w63 ⟨rfl, hb⟩; refine ⟨_, rfl, ?_⟩; have n0_ := Aside0.mk (bU (g := gb300) (o := .cells #[.int .i64 a0_0, .int .i64 a0_1, .int .i64 a0_2, .int .i64 a0_3, .bool a0_4] 23 (0, 0)) (by (with_reducible repeat (first | refine bG ?_ _ | refine bH ?_ | refine bF ?_ _)); exact BK300.out) hb); have n1_ := Aside0.mk (bP (by repeat (first | (with_reducible first | exact HB.out | apply bE | apply bA | apply bD | refine bJ ?_ GE300.out) | exact HB.out)) hb); clear BK300; clear HB; have BK300 := n0_; have HB := n1_; clear n0_ n1_; (try clear hb); (try clear hb2); (try clear hk); (try clear hi)))
  go_ret
  exact ⟨by first | rfl | (simp [errW_none, errW_some] <;> rfl) | (simp [*, errW_none, errW_some] <;> rfl), by repeat (first | (with_reducible first | exact HB.out | apply bE | apply bA | apply bD | refine bJ ?_ GE300.out) | exact HB.out)⟩

end Go.Proofs.Ythhebinonpoddaa.GStmtNeeds
