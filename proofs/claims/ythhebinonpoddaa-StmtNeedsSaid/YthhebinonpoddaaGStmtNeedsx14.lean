/- Written for this claim by gp.py, a program of this session's, over the kit's print. Lean checks it. -/
import Derived.Test.YthhebinonpoddaaGStmtNeedsx0
import Derived.Test.YthhebinonpoddaaGStmtNeedsx8
import Derived.Test.YthhebinonpoddaaGStmtNeedsx9
import Derived.Test.YthhebinonpoddaaGStmtNeedsx10
import Derived.Test.YthhebinonpoddaaGStmtNeedsx12
import Derived.Test.YthhebinonpoddaaGStmtNeedsx13
namespace Go.Proofs.Ythhebinonpoddaa.GStmtNeeds
open Go.RowKit Go.Proofs.YthhebinonpoddaaW.PrintWords Go.Proofs.YthhebinonpoddaaW.PrintLast Go.Proofs.YthhebinonpoddaaW.PrintMore
attribute [local go_sem] max2_int min2_int max_two min_two max_three min_three max_four min_four   -- for this text's walks alone
set_option linter.unusedVariables false
set_option linter.unusedSimpArgs false

/-! ### easementref18_Needs: function 37 -/
def easementref18_Needs.j0 : Nat → List (S44) → Bool → Int → Int → Int → Int → Bool → Option ((List (S128)) × Int)
 | 0, _, _, _, _, _, _, _ => none
 | k + 1, x1, x58, x261000, x261001, x261002, x261003, x261004 => if x58 = true then (some (([] : List (S128)), 7)) else (if x261000 = 1 then (if 0 ≤ x261002 then (if x261002 < (x1.length : Int) then (if 0 ≤ x261001 then (if x261001 < (x1.length : Int) then ((easementref16_Flow.f k ((rd_T44 x1 x261002).f0) ((rd_T44 x1 x261001).f0) 1 0).bind fun bt271 => (some (bt271.1, bt271.2))) else (none)) else (none)) else (none)) else (none)) else (if x261000 = 2 then (if 0 ≤ x261002 then (if x261002 < (x1.length : Int) then (if 0 ≤ x261001 then (if x261001 < (x1.length : Int) then ((easementref16_Loan.f k ((rd_T44 x1 x261002).f0) ((rd_T44 x1 x261001).f0) x261003 x261004).bind fun bt277 => (some (bt277.1, bt277.2))) else (none)) else (none)) else (none)) else (none)) else (if x261000 = 3 then (if 0 ≤ x261002 then (if x261002 < (x1.length : Int) then (if 0 ≤ x261001 then (if x261001 < (x1.length : Int) then ((easementref16_Again.f k ((rd_T44 x1 x261002).f0) ((rd_T44 x1 x261001).f0) x261003 x261004).bind fun bt283 => (some (bt283.1, bt283.2))) else (none)) else (none)) else (none)) else (none)) else (some (([] : List (S128)), 0)))))
def easementref18_Needs.f (k : Nat) (a0_0 : Int) (a0_1 : Int) (a0_2 : Int) (a0_3 : Int) (a0_4 : Bool) (l1 : List (S44)) (a2 : Int) : Option ((List (S128)) × Int) := (easementref18_Form.f a0_0 a0_1 a0_2 a0_3 a0_4).bind fun t261 => (if t261 = true then ((easementref18_Dst.f a0_0).bind fun t262 => (if t262 = true then (if a0_1 < 0 then (easementref18_Needs.j0 k l1 true a0_0 a0_1 a0_2 a0_3 a0_4) else (if a0_1 ≥ (l1.length : Int) then (easementref18_Needs.j0 k l1 true a0_0 a0_1 a0_2 a0_3 a0_4) else ((easementref18_Src.f a0_0).bind fun t263 => (if t263 = true then (if a0_2 < 0 then (easementref18_Needs.j0 k l1 true a0_0 a0_1 a0_2 a0_3 a0_4) else (if a0_2 ≥ (l1.length : Int) then (easementref18_Needs.j0 k l1 true a0_0 a0_1 a0_2 a0_3 a0_4) else ((easementref18_Region.f a0_0).bind fun t264 => (if t264 = true then (if a0_3 < 0 then (easementref18_Needs.j0 k l1 true a0_0 a0_1 a0_2 a0_3 a0_4) else (easementref18_Needs.j0 k l1 (decide (a0_3 ≥ a2)) a0_0 a0_1 a0_2 a0_3 a0_4)) else (easementref18_Needs.j0 k l1 false a0_0 a0_1 a0_2 a0_3 a0_4))))) else ((easementref18_Region.f a0_0).bind fun t265 => (if t265 = true then (if a0_3 < 0 then (easementref18_Needs.j0 k l1 true a0_0 a0_1 a0_2 a0_3 a0_4) else (easementref18_Needs.j0 k l1 (decide (a0_3 ≥ a2)) a0_0 a0_1 a0_2 a0_3 a0_4)) else (easementref18_Needs.j0 k l1 false a0_0 a0_1 a0_2 a0_3 a0_4))))))) else ((easementref18_Src.f a0_0).bind fun t266 => (if t266 = true then (if a0_2 < 0 then (easementref18_Needs.j0 k l1 true a0_0 a0_1 a0_2 a0_3 a0_4) else (if a0_2 ≥ (l1.length : Int) then (easementref18_Needs.j0 k l1 true a0_0 a0_1 a0_2 a0_3 a0_4) else ((easementref18_Region.f a0_0).bind fun t267 => (if t267 = true then (if a0_3 < 0 then (easementref18_Needs.j0 k l1 true a0_0 a0_1 a0_2 a0_3 a0_4) else (easementref18_Needs.j0 k l1 (decide (a0_3 ≥ a2)) a0_0 a0_1 a0_2 a0_3 a0_4)) else (easementref18_Needs.j0 k l1 false a0_0 a0_1 a0_2 a0_3 a0_4))))) else ((easementref18_Region.f a0_0).bind fun t268 => (if t268 = true then (if a0_3 < 0 then (easementref18_Needs.j0 k l1 true a0_0 a0_1 a0_2 a0_3 a0_4) else (easementref18_Needs.j0 k l1 (decide (a0_3 ≥ a2)) a0_0 a0_1 a0_2 a0_3 a0_4)) else (easementref18_Needs.j0 k l1 false a0_0 a0_1 a0_2 a0_3 a0_4))))))) else (some (([] : List (S128)), 3)))
theorem easementref18_Needs.mono_l : ∀ k, (∀ y0 y1 y2 y3 y4 y5 y6, LeO (easementref18_Needs.j0 k y0 y1 y2 y3 y4 y5 y6) (easementref18_Needs.j0 (k + 1) y0 y1 y2 y3 y4 y5 y6))
 | 0 => fun _ _ _ _ _ _ _ r h => by simp [easementref18_Needs.j0] at h
 | k + 1 => by
  have ih0 := easementref18_Needs.mono_l k
  ·intro y0 y1 y2 y3 y4 y5 y6
   unfold easementref18_Needs.j0
   repeat' first
   | (with_reducible exact ih0 _ _ _ _ _ _ _)
   | (with_reducible exact easementref16_Again.mono _ _ _ _ _)
   | (with_reducible exact easementref16_Flow.mono _ _ _ _ _)
   | (with_reducible exact easementref16_Loan.mono _ _ _ _ _)
   | (with_reducible exact LeO.refl _)
   | (with_reducible exact LeO.none _)
   | (with_reducible refine LeO.ite ?_ ?_)
   | (with_reducible refine LeO.bind ?_ (fun _ => ?_))
   | exact ih0 _ _ _ _ _ _ _
   | exact easementref16_Again.mono _ _ _ _ _
   | exact easementref16_Flow.mono _ _ _ _ _
   | exact easementref16_Loan.mono _ _ _ _ _
   | exact LeO.none _
   | refine LeO.ite ?_ ?_
   | refine LeO.bind ?_ (fun _ => ?_)
theorem easementref18_Needs.mono : ∀ a0 a1 a2 a3 a4 a5 a6 k, LeO (easementref18_Needs.f k a0 a1 a2 a3 a4 a5 a6) (easementref18_Needs.f (k + 1) a0 a1 a2 a3 a4 a5 a6) := by
 intro a0 a1 a2 a3 a4 a5 a6 k
 have ih0 := easementref18_Needs.mono_l k
 unfold easementref18_Needs.f
 repeat' first
   | (with_reducible exact ih0 _ _ _ _ _ _ _)
   | (with_reducible exact easementref16_Again.mono _ _ _ _ _)
   | (with_reducible exact easementref16_Flow.mono _ _ _ _ _)
   | (with_reducible exact easementref16_Loan.mono _ _ _ _ _)
   | (with_reducible exact LeO.refl _)
   | (with_reducible exact LeO.none _)
   | (with_reducible refine LeO.ite ?_ ?_)
   | (with_reducible refine LeO.bind ?_ (fun _ => ?_))
   | exact ih0 _ _ _ _ _ _ _
   | exact easementref16_Again.mono _ _ _ _ _
   | exact easementref16_Flow.mono _ _ _ _ _
   | exact easementref16_Loan.mono _ _ _ _ _
   | exact LeO.none _
   | refine LeO.ite ?_ ?_
   | refine LeO.bind ?_ (fun _ => ?_)
def easementref18_Needs.T6 : Bool × List (List Nat × List Nat) := (true, [([], []), ([], []), ([1], [1]), ([0, 2], [0, 2]), ([3], [3]), ([], []), ([], []), ([6], [6]), ([5, 7], [5, 7]), ([8], [8]), ([4, 9], [4, 9]), ([10], [10]), ([10], [10]), ([11, 10, 0, 1, 2, 3, 4, 5, 6, 7, 8, 9, 10, 11, 12], [11]), ([12, 13, 0, 1, 2, 3, 4, 5, 6, 7, 8, 9, 10, 11, 12, 13], [12])])
def easementref18_Needs.B6 : List Nat := [0, 0, 2, 7, 15, 0, 0, 64, 224, 480, 1023, 2047, 2047, 8191, 16383]
theorem easementref18_Needs.tab6 : rtab .any (opsOf Try.f37 6) = easementref18_Needs.T6 := by kernel_rfl
theorem easementref18_Needs.bits6 : waitsOk easementref18_Needs.T6.2 easementref18_Needs.B6 = true := by kernel_rfl
def easementref18_Needs.T8 : Bool × List (List Nat × List Nat) := (true, [([], []), ([], []), ([1], [1]), ([0, 2], [0, 2]), ([3], [3]), ([], []), ([], []), ([6], [6]), ([5, 7], [5, 7]), ([8], [8]), ([], []), ([10], [10]), ([], []), ([12], [12]), ([4, 9, 11, 13], [4, 9, 11, 13]), ([14], [14]), ([14], [14]), ([15, 14, 0, 1, 2, 3, 4, 5, 6, 7, 8, 9, 10, 11, 12, 13, 14, 15, 16], [15]), ([16, 17, 0, 1, 2, 3, 4, 5, 6, 7, 8, 9, 10, 11, 12, 13, 14, 15, 16, 17], [16])])
def easementref18_Needs.B8 : List Nat := [0, 0, 2, 7, 15, 0, 0, 64, 224, 480, 0, 1024, 0, 4096, 16383, 32767, 32767, 131071, 262143]
theorem easementref18_Needs.tab8 : rtab .any (opsOf Try.f37 8) = easementref18_Needs.T8 := by kernel_rfl
theorem easementref18_Needs.bits8 : waitsOk easementref18_Needs.T8.2 easementref18_Needs.B8 = true := by kernel_rfl
def easementref18_Needs.T10 : Bool × List (List Nat × List Nat) := (true, [([], []), ([], []), ([1], [1]), ([0, 2], [0, 2]), ([3], [3]), ([], []), ([], []), ([6], [6]), ([5, 7], [5, 7]), ([8], [8]), ([], []), ([10], [10]), ([], []), ([12], [12]), ([4, 9, 11, 13], [4, 9, 11, 13]), ([14], [14]), ([14], [14]), ([15, 14, 0, 1, 2, 3, 4, 5, 6, 7, 8, 9, 10, 11, 12, 13, 14, 15, 16], [15]), ([16, 17, 0, 1, 2, 3, 4, 5, 6, 7, 8, 9, 10, 11, 12, 13, 14, 15, 16, 17], [16])])
def easementref18_Needs.B10 : List Nat := [0, 0, 2, 7, 15, 0, 0, 64, 224, 480, 0, 1024, 0, 4096, 16383, 32767, 32767, 131071, 262143]
theorem easementref18_Needs.tab10 : rtab .any (opsOf Try.f37 10) = easementref18_Needs.T10 := by kernel_rfl
theorem easementref18_Needs.bits10 : waitsOk easementref18_Needs.T10.2 easementref18_Needs.B10 = true := by kernel_rfl
set_option maxHeartbeats 8000000 in
set_option maxRecDepth 100000 in
theorem easementref18_Needs.calls (k : Nat) (a0_0 : Int) (a0_1 : Int) (a0_2 : Int) (a0_3 : Int) (a0_4 : Bool) (A1 : Option Addr) (c1 : Nat) (l1 : List (S44)) (a2 : Int) (r1 : List (S128)) (r2 : Int) (w : World) (hr1 : Kd.C k44 w A1 l1.length l1) (hc1 : l1.length ≤ c1) (h : easementref18_Needs.f k a0_0 a0_1 a0_2 a0_3 a0_4 l1 a2 = some (r1, r2)) :
  Calls Try.prog 37 #[.agg #[.int .i64 a0_0, .int .i64 a0_1, .int .i64 a0_2, .int .i64 a0_3, .bool a0_4], .slice A1 l1.length c1, .int .i64 a2] w fun e w' => ∃ v0_ : Value, e = .returned (.tuple #[v0_, .int .i64 r2]) ∧ Kd.R k128 128 w' w.heap.size (fun _ => True) v0_ r1 ∧ Below w.heap.size w w' := by
 have hu23 := Try.underlying23
 have hu44 := Try.underlying44
 have HR1 := Aside0.mk hr1
 have HC1 := Aside0.mk hc1
 clear hr1 hc1
 have HB := Aside0.mk (Below.refl w.heap.size w)
 have H : ((easementref18_Form.f a0_0 a0_1 a0_2 a0_3 a0_4).bind fun t261 => (if t261 = true then ((easementref18_Dst.f a0_0).bind fun t262 => (if t262 = true then (if a0_1 < 0 then (easementref18_Needs.j0 k l1 true a0_0 a0_1 a0_2 a0_3 a0_4) else (if a0_1 ≥ (l1.length : Int) then (easementref18_Needs.j0 k l1 true a0_0 a0_1 a0_2 a0_3 a0_4) else ((easementref18_Src.f a0_0).bind fun t263 => (if t263 = true then (if a0_2 < 0 then (easementref18_Needs.j0 k l1 true a0_0 a0_1 a0_2 a0_3 a0_4) else (if a0_2 ≥ (l1.length : Int) then (easementref18_Needs.j0 k l1 true a0_0 a0_1 a0_2 a0_3 a0_4) else ((easementref18_Region.f a0_0).bind fun t264 => (if t264 = true then (if a0_3 < 0 then (easementref18_Needs.j0 k l1 true a0_0 a0_1 a0_2 a0_3 a0_4) else (easementref18_Needs.j0 k l1 (decide (a0_3 ≥ a2)) a0_0 a0_1 a0_2 a0_3 a0_4)) else (easementref18_Needs.j0 k l1 false a0_0 a0_1 a0_2 a0_3 a0_4))))) else ((easementref18_Region.f a0_0).bind fun t265 => (if t265 = true then (if a0_3 < 0 then (easementref18_Needs.j0 k l1 true a0_0 a0_1 a0_2 a0_3 a0_4) else (easementref18_Needs.j0 k l1 (decide (a0_3 ≥ a2)) a0_0 a0_1 a0_2 a0_3 a0_4)) else (easementref18_Needs.j0 k l1 false a0_0 a0_1 a0_2 a0_3 a0_4))))))) else ((easementref18_Src.f a0_0).bind fun t266 => (if t266 = true then (if a0_2 < 0 then (easementref18_Needs.j0 k l1 true a0_0 a0_1 a0_2 a0_3 a0_4) else (if a0_2 ≥ (l1.length : Int) then (easementref18_Needs.j0 k l1 true a0_0 a0_1 a0_2 a0_3 a0_4) else ((easementref18_Region.f a0_0).bind fun t267 => (if t267 = true then (if a0_3 < 0 then (easementref18_Needs.j0 k l1 true a0_0 a0_1 a0_2 a0_3 a0_4) else (easementref18_Needs.j0 k l1 (decide (a0_3 ≥ a2)) a0_0 a0_1 a0_2 a0_3 a0_4)) else (easementref18_Needs.j0 k l1 false a0_0 a0_1 a0_2 a0_3 a0_4))))) else ((easementref18_Region.f a0_0).bind fun t268 => (if t268 = true then (if a0_3 < 0 then (easementref18_Needs.j0 k l1 true a0_0 a0_1 a0_2 a0_3 a0_4) else (easementref18_Needs.j0 k l1 (decide (a0_3 ≥ a2)) a0_0 a0_1 a0_2 a0_3 a0_4)) else (easementref18_Needs.j0 k l1 false a0_0 a0_1 a0_2 a0_3 a0_4))))))) else (some (([] : List (S128)), 3)))) = some (r1, r2) := h
 clear h
 replace H := Option.bind_eq_some_iff.mp H
 obtain ⟨t261, A40, H⟩ := H
 replace H : (if t261 = true then ((easementref18_Dst.f a0_0).bind fun t262 => (if t262 = true then (if a0_1 < 0 then (easementref18_Needs.j0 k l1 true a0_0 a0_1 a0_2 a0_3 a0_4) else (if a0_1 ≥ (l1.length : Int) then (easementref18_Needs.j0 k l1 true a0_0 a0_1 a0_2 a0_3 a0_4) else ((easementref18_Src.f a0_0).bind fun t263 => (if t263 = true then (if a0_2 < 0 then (easementref18_Needs.j0 k l1 true a0_0 a0_1 a0_2 a0_3 a0_4) else (if a0_2 ≥ (l1.length : Int) then (easementref18_Needs.j0 k l1 true a0_0 a0_1 a0_2 a0_3 a0_4) else ((easementref18_Region.f a0_0).bind fun t264 => (if t264 = true then (if a0_3 < 0 then (easementref18_Needs.j0 k l1 true a0_0 a0_1 a0_2 a0_3 a0_4) else (easementref18_Needs.j0 k l1 (decide (a0_3 ≥ a2)) a0_0 a0_1 a0_2 a0_3 a0_4)) else (easementref18_Needs.j0 k l1 false a0_0 a0_1 a0_2 a0_3 a0_4))))) else ((easementref18_Region.f a0_0).bind fun t265 => (if t265 = true then (if a0_3 < 0 then (easementref18_Needs.j0 k l1 true a0_0 a0_1 a0_2 a0_3 a0_4) else (easementref18_Needs.j0 k l1 (decide (a0_3 ≥ a2)) a0_0 a0_1 a0_2 a0_3 a0_4)) else (easementref18_Needs.j0 k l1 false a0_0 a0_1 a0_2 a0_3 a0_4))))))) else ((easementref18_Src.f a0_0).bind fun t266 => (if t266 = true then (if a0_2 < 0 then (easementref18_Needs.j0 k l1 true a0_0 a0_1 a0_2 a0_3 a0_4) else (if a0_2 ≥ (l1.length : Int) then (easementref18_Needs.j0 k l1 true a0_0 a0_1 a0_2 a0_3 a0_4) else ((easementref18_Region.f a0_0).bind fun t267 => (if t267 = true then (if a0_3 < 0 then (easementref18_Needs.j0 k l1 true a0_0 a0_1 a0_2 a0_3 a0_4) else (easementref18_Needs.j0 k l1 (decide (a0_3 ≥ a2)) a0_0 a0_1 a0_2 a0_3 a0_4)) else (easementref18_Needs.j0 k l1 false a0_0 a0_1 a0_2 a0_3 a0_4))))) else ((easementref18_Region.f a0_0).bind fun t268 => (if t268 = true then (if a0_3 < 0 then (easementref18_Needs.j0 k l1 true a0_0 a0_1 a0_2 a0_3 a0_4) else (easementref18_Needs.j0 k l1 (decide (a0_3 ≥ a2)) a0_0 a0_1 a0_2 a0_3 a0_4)) else (easementref18_Needs.j0 k l1 false a0_0 a0_1 a0_2 a0_3 a0_4))))))) else (some (([] : List (S128)), 3))) = some (r1, r2) := H
 have A4 := Aside0.mk A40
 clear A40
 by_cases c5 : t261 = true
 ·subst c5
  have H1 : ((easementref18_Dst.f a0_0).bind fun t262 => (if t262 = true then (if a0_1 < 0 then (easementref18_Needs.j0 k l1 true a0_0 a0_1 a0_2 a0_3 a0_4) else (if a0_1 ≥ (l1.length : Int) then (easementref18_Needs.j0 k l1 true a0_0 a0_1 a0_2 a0_3 a0_4) else ((easementref18_Src.f a0_0).bind fun t263 => (if t263 = true then (if a0_2 < 0 then (easementref18_Needs.j0 k l1 true a0_0 a0_1 a0_2 a0_3 a0_4) else (if a0_2 ≥ (l1.length : Int) then (easementref18_Needs.j0 k l1 true a0_0 a0_1 a0_2 a0_3 a0_4) else ((easementref18_Region.f a0_0).bind fun t264 => (if t264 = true then (if a0_3 < 0 then (easementref18_Needs.j0 k l1 true a0_0 a0_1 a0_2 a0_3 a0_4) else (easementref18_Needs.j0 k l1 (decide (a0_3 ≥ a2)) a0_0 a0_1 a0_2 a0_3 a0_4)) else (easementref18_Needs.j0 k l1 false a0_0 a0_1 a0_2 a0_3 a0_4))))) else ((easementref18_Region.f a0_0).bind fun t265 => (if t265 = true then (if a0_3 < 0 then (easementref18_Needs.j0 k l1 true a0_0 a0_1 a0_2 a0_3 a0_4) else (easementref18_Needs.j0 k l1 (decide (a0_3 ≥ a2)) a0_0 a0_1 a0_2 a0_3 a0_4)) else (easementref18_Needs.j0 k l1 false a0_0 a0_1 a0_2 a0_3 a0_4))))))) else ((easementref18_Src.f a0_0).bind fun t266 => (if t266 = true then (if a0_2 < 0 then (easementref18_Needs.j0 k l1 true a0_0 a0_1 a0_2 a0_3 a0_4) else (if a0_2 ≥ (l1.length : Int) then (easementref18_Needs.j0 k l1 true a0_0 a0_1 a0_2 a0_3 a0_4) else ((easementref18_Region.f a0_0).bind fun t267 => (if t267 = true then (if a0_3 < 0 then (easementref18_Needs.j0 k l1 true a0_0 a0_1 a0_2 a0_3 a0_4) else (easementref18_Needs.j0 k l1 (decide (a0_3 ≥ a2)) a0_0 a0_1 a0_2 a0_3 a0_4)) else (easementref18_Needs.j0 k l1 false a0_0 a0_1 a0_2 a0_3 a0_4))))) else ((easementref18_Region.f a0_0).bind fun t268 => (if t268 = true then (if a0_3 < 0 then (easementref18_Needs.j0 k l1 true a0_0 a0_1 a0_2 a0_3 a0_4) else (easementref18_Needs.j0 k l1 (decide (a0_3 ≥ a2)) a0_0 a0_1 a0_2 a0_3 a0_4)) else (easementref18_Needs.j0 k l1 false a0_0 a0_1 a0_2 a0_3 a0_4))))))) = some (r1, r2) := by rw [if_pos rfl] at H; exact H
  clear H
  have H := H1
  clear H1
  have HC6 := Aside0.mk H
  clear H
  go_enter Try.func37, Try.ntmps37
  go_upto_region 3 with (first | ((with_reducible refine bT (N := 3) rfl ?_); (try (refine gate_guard (by rfl) ?_; dsimp only)); refine bS ?hg (N := 3) ?hd (cs := #[.int .i64 a0_0, .int .i64 a0_1, .int .i64 a0_2, .int .i64 a0_3, .bool a0_4]) (t := 23) ?hr ?_; (case hd => rfl); (case hg => rfl); (case hr => first | (go_simp; done) | (go_simp; rfl)); intro gb260 hg w7 hbox hb; have n0_ := Aside0.mk (bP (by repeat (first | (with_reducible first | exact HB.out | apply bE | apply bA | apply bD) | exact HB.out)) hb); have n1_ := Aside0.mk (hbox); have n2_ := Aside0.mk ((by rw [hg]; exact (bK (by repeat (first | (with_reducible first | exact HB.out | apply bE | apply bA | apply bD) | exact HB.out))) : w.heap.size ≤ gb260)); have n3_ := Aside0.mk ((by rw [hg]; exact (bK (by repeat (first | (with_reducible first | exact HB.out | apply bE | apply bA | apply bD) | exact HB.out))) : w.heap.size ≤ gb260)); clear HB; have HB := n0_; have BK260 := n1_; have GW260 := n2_; have GE260 := n3_; clear n0_ n1_ n2_ n3_; clear hb hbox hg; have hcz8_0 : w7.cell? ⟨gb260, 0, none⟩ = some (.int .i64 a0_0) := (bC BK260.out 0).trans rfl; have hcz8_1 : w7.cell? ⟨gb260, 1, none⟩ = some (.int .i64 a0_1) := (bC BK260.out 1).trans rfl; have hcz8_2 : w7.cell? ⟨gb260, 2, none⟩ = some (.int .i64 a0_2) := (bC BK260.out 2).trans rfl; have hcz8_3 : w7.cell? ⟨gb260, 3, none⟩ = some (.int .i64 a0_3) := (bC BK260.out 3).trans rfl; have hcz8_4 : w7.cell? ⟨gb260, 4, none⟩ = some (.bool a0_4) := (bC BK260.out 4).trans rfl; have hfz8_0 := bB BK260.out 0; have hfz8_1 := bB BK260.out 1; have hfz8_2 := bB BK260.out 2; have hfz8_3 := bB BK260.out 3; have hfz8_4 := bB BK260.out 4) | ((with_reducible refine bV (f := 66) rfl ?_); refine goesL_ (some 9) rfl rfl Try.func66 (by kernel_rfl) rfl #[.agg #[.int .i64 a0_0, .int .i64 a0_1, .int .i64 a0_2, .int .i64 a0_3, .bool a0_4]] rfl (by (try simp only [List.map_toArray, List.map_cons, List.map_nil]); first | done | rfl | (simp only [List.length_drop, List.length_take]; rfl)) ?_; (with_reducible refine (easementref18_Form.calls a0_0 a0_1 a0_2 a0_3 a0_4 true _ A4.out).mono ?_); rintro e w9 ⟨rfl, hb⟩; refine ⟨_, rfl, ?_⟩; have n0_ := Aside0.mk (bU (g := gb260) (o := .cells #[.int .i64 a0_0, .int .i64 a0_1, .int .i64 a0_2, .int .i64 a0_3, .bool a0_4] 23 (0, 0)) (by (with_reducible repeat (first | refine bG ?_ _ | refine bH ?_ | refine bF ?_ _)); exact BK260.out) hb); have n1_ := Aside0.mk (bP (by repeat (first | (with_reducible first | exact HB.out | apply bE | apply bA | apply bD | refine bJ ?_ GE260.out) | exact HB.out)) hb); clear BK260; clear HB; have BK260 := n0_; have HB := n1_; clear n0_ n1_; (try clear hb); (try clear hb2); (try clear hk); (try clear hi)))
  (try simp only [Act.put, sZ1, sZ2, sZ3])
  go_cut [58] (fun v58 wc => ∃ (kq : Nat) (x58_5 : Bool), v58 = .bool x58_5 ∧ Aside0 (easementref18_Needs.j0 kq l1 x58_5 a0_0 a0_1 a0_2 a0_3 a0_4 = some (r1, r2)) ∧ Aside0 (kq ≤ k) ∧ Aside0 (wc.heap[gb260]? = some (.cells #[.int .i64 a0_0, .int .i64 a0_1, .int .i64 a0_2, .int .i64 a0_3, .bool a0_4] 23 (0, 0))) ∧ Aside0 (Below w.heap.size w wc))
  case first =>
   have H := HC6.out
   clear HC6
   replace H := Option.bind_eq_some_iff.mp H
   obtain ⟨t262, A100, H⟩ := H
   replace H : (if t262 = true then (if a0_1 < 0 then (easementref18_Needs.j0 k l1 true a0_0 a0_1 a0_2 a0_3 a0_4) else (if a0_1 ≥ (l1.length : Int) then (easementref18_Needs.j0 k l1 true a0_0 a0_1 a0_2 a0_3 a0_4) else ((easementref18_Src.f a0_0).bind fun t263 => (if t263 = true then (if a0_2 < 0 then (easementref18_Needs.j0 k l1 true a0_0 a0_1 a0_2 a0_3 a0_4) else (if a0_2 ≥ (l1.length : Int) then (easementref18_Needs.j0 k l1 true a0_0 a0_1 a0_2 a0_3 a0_4) else ((easementref18_Region.f a0_0).bind fun t264 => (if t264 = true then (if a0_3 < 0 then (easementref18_Needs.j0 k l1 true a0_0 a0_1 a0_2 a0_3 a0_4) else (easementref18_Needs.j0 k l1 (decide (a0_3 ≥ a2)) a0_0 a0_1 a0_2 a0_3 a0_4)) else (easementref18_Needs.j0 k l1 false a0_0 a0_1 a0_2 a0_3 a0_4))))) else ((easementref18_Region.f a0_0).bind fun t265 => (if t265 = true then (if a0_3 < 0 then (easementref18_Needs.j0 k l1 true a0_0 a0_1 a0_2 a0_3 a0_4) else (easementref18_Needs.j0 k l1 (decide (a0_3 ≥ a2)) a0_0 a0_1 a0_2 a0_3 a0_4)) else (easementref18_Needs.j0 k l1 false a0_0 a0_1 a0_2 a0_3 a0_4))))))) else ((easementref18_Src.f a0_0).bind fun t266 => (if t266 = true then (if a0_2 < 0 then (easementref18_Needs.j0 k l1 true a0_0 a0_1 a0_2 a0_3 a0_4) else (if a0_2 ≥ (l1.length : Int) then (easementref18_Needs.j0 k l1 true a0_0 a0_1 a0_2 a0_3 a0_4) else ((easementref18_Region.f a0_0).bind fun t267 => (if t267 = true then (if a0_3 < 0 then (easementref18_Needs.j0 k l1 true a0_0 a0_1 a0_2 a0_3 a0_4) else (easementref18_Needs.j0 k l1 (decide (a0_3 ≥ a2)) a0_0 a0_1 a0_2 a0_3 a0_4)) else (easementref18_Needs.j0 k l1 false a0_0 a0_1 a0_2 a0_3 a0_4))))) else ((easementref18_Region.f a0_0).bind fun t268 => (if t268 = true then (if a0_3 < 0 then (easementref18_Needs.j0 k l1 true a0_0 a0_1 a0_2 a0_3 a0_4) else (easementref18_Needs.j0 k l1 (decide (a0_3 ≥ a2)) a0_0 a0_1 a0_2 a0_3 a0_4)) else (easementref18_Needs.j0 k l1 false a0_0 a0_1 a0_2 a0_3 a0_4)))))) = some (r1, r2) := H
   have A10 := Aside0.mk A100
   clear A100
   by_cases c11 : t262 = true
   ·subst c11
    have H1 : (if a0_1 < 0 then (easementref18_Needs.j0 k l1 true a0_0 a0_1 a0_2 a0_3 a0_4) else (if a0_1 ≥ (l1.length : Int) then (easementref18_Needs.j0 k l1 true a0_0 a0_1 a0_2 a0_3 a0_4) else ((easementref18_Src.f a0_0).bind fun t263 => (if t263 = true then (if a0_2 < 0 then (easementref18_Needs.j0 k l1 true a0_0 a0_1 a0_2 a0_3 a0_4) else (if a0_2 ≥ (l1.length : Int) then (easementref18_Needs.j0 k l1 true a0_0 a0_1 a0_2 a0_3 a0_4) else ((easementref18_Region.f a0_0).bind fun t264 => (if t264 = true then (if a0_3 < 0 then (easementref18_Needs.j0 k l1 true a0_0 a0_1 a0_2 a0_3 a0_4) else (easementref18_Needs.j0 k l1 (decide (a0_3 ≥ a2)) a0_0 a0_1 a0_2 a0_3 a0_4)) else (easementref18_Needs.j0 k l1 false a0_0 a0_1 a0_2 a0_3 a0_4))))) else ((easementref18_Region.f a0_0).bind fun t265 => (if t265 = true then (if a0_3 < 0 then (easementref18_Needs.j0 k l1 true a0_0 a0_1 a0_2 a0_3 a0_4) else (easementref18_Needs.j0 k l1 (decide (a0_3 ≥ a2)) a0_0 a0_1 a0_2 a0_3 a0_4)) else (easementref18_Needs.j0 k l1 false a0_0 a0_1 a0_2 a0_3 a0_4))))))) = some (r1, r2) := by rw [if_pos rfl] at H; exact H
    clear H
    have H := H1
    clear H1
    by_cases c12 : a0_1 < 0
    ·rw [if_pos c12] at H
     have c12b0 : decide (a0_1 < 0) = true := decide_eq_true c12
     clear c12
     (first | rw [c12b0] | (simp only [bL, bM]; rw [c12b0]) | skip)
     have H' := Aside0.mk H
     clear H
     have hcz13_0 : w9.cell? ⟨gb260, 0, none⟩ = some (.int .i64 a0_0) := (bC BK260.out 0).trans rfl
     have hcz13_1 : w9.cell? ⟨gb260, 1, none⟩ = some (.int .i64 a0_1) := (bC BK260.out 1).trans rfl
     have hcz13_2 : w9.cell? ⟨gb260, 2, none⟩ = some (.int .i64 a0_2) := (bC BK260.out 2).trans rfl
     have hcz13_3 : w9.cell? ⟨gb260, 3, none⟩ = some (.int .i64 a0_3) := (bC BK260.out 3).trans rfl
     have hcz13_4 : w9.cell? ⟨gb260, 4, none⟩ = some (.bool a0_4) := (bC BK260.out 4).trans rfl
     have hfz13_0 := bB BK260.out 0
     have hfz13_1 := bB BK260.out 1
     have hfz13_2 := bB BK260.out 2
     have hfz13_3 := bB BK260.out 3
     have hfz13_4 := bB BK260.out 4
     go_wp2_with (first | ((with_reducible refine bV (f := 61) rfl ?_); refine goesL_ (some 13) rfl rfl Try.func61 (by kernel_rfl) rfl #[.int .i64 a0_0] rfl (by (try simp only [List.map_toArray, List.map_cons, List.map_nil]); first | done | rfl | (simp only [List.length_drop, List.length_take]; rfl)) ?_; (with_reducible refine (easementref18_Dst.calls a0_0 true _ A10.out).mono ?_); rintro e w' ⟨rfl, ⟨nd, rfl⟩⟩; refine ⟨_, rfl, ?_⟩))
     go_meet
     case rel => exact ⟨_, (true), (by first | rfl | (simp; done) | (simp [*]; done)), H', ⟨by first | omega | exact Nat.le_refl _⟩, ⟨by (with_reducible repeat (first | refine bG ?_ _ | refine bH ?_ | refine bF ?_ _)); exact BK260.out⟩, ⟨by repeat (first | (with_reducible first | exact HB.out | apply bE | apply bA | apply bD | refine bJ ?_ GE260.out) | exact HB.out)⟩⟩
    ·rw [if_neg c12] at H
     have c12b0 : decide (a0_1 < 0) = false := decide_eq_false c12
     clear c12
     (first | rw [c12b0] | (simp only [bL, bM]; rw [c12b0]) | skip)
     by_cases c14 : a0_1 ≥ (l1.length : Int)
     ·rw [if_pos c14] at H
      have c14b0 : decide ((l1.length : Int) ≤ a0_1) = true := decide_eq_true c14
      clear c14
      have H' := Aside0.mk H
      clear H
      have hcz15_0 : w9.cell? ⟨gb260, 0, none⟩ = some (.int .i64 a0_0) := (bC BK260.out 0).trans rfl
      have hcz15_1 : w9.cell? ⟨gb260, 1, none⟩ = some (.int .i64 a0_1) := (bC BK260.out 1).trans rfl
      have hcz15_2 : w9.cell? ⟨gb260, 2, none⟩ = some (.int .i64 a0_2) := (bC BK260.out 2).trans rfl
      have hcz15_3 : w9.cell? ⟨gb260, 3, none⟩ = some (.int .i64 a0_3) := (bC BK260.out 3).trans rfl
      have hcz15_4 : w9.cell? ⟨gb260, 4, none⟩ = some (.bool a0_4) := (bC BK260.out 4).trans rfl
      have hfz15_0 := bB BK260.out 0
      have hfz15_1 := bB BK260.out 1
      have hfz15_2 := bB BK260.out 2
      have hfz15_3 := bB BK260.out 3
      have hfz15_4 := bB BK260.out 4
      go_wp2_with (first | ((with_reducible refine bV (f := 61) rfl ?_); refine goesL_ (some 13) rfl rfl Try.func61 (by kernel_rfl) rfl #[.int .i64 a0_0] rfl (by (try simp only [List.map_toArray, List.map_cons, List.map_nil]); first | done | rfl | (simp only [List.length_drop, List.length_take]; rfl)) ?_; (with_reducible refine (easementref18_Dst.calls a0_0 true _ A10.out).mono ?_); rintro e w' ⟨rfl, ⟨nd, rfl⟩⟩; refine ⟨_, rfl, ?_⟩))
      go_meet
      case rel => exact ⟨_, (true), (by first | rfl | (simp; done) | (simp [*]; done)), H', ⟨by first | omega | exact Nat.le_refl _⟩, ⟨by (with_reducible repeat (first | refine bG ?_ _ | refine bH ?_ | refine bF ?_ _)); exact BK260.out⟩, ⟨by repeat (first | (with_reducible first | exact HB.out | apply bE | apply bA | apply bD | refine bJ ?_ GE260.out) | exact HB.out)⟩⟩
     ·rw [if_neg c14] at H
      have c14b0 : decide ((l1.length : Int) ≤ a0_1) = false := decide_eq_false c14
      clear c14
      replace H := Option.bind_eq_some_iff.mp H
      obtain ⟨t263, A160, H⟩ := H
      replace H : (if t263 = true then (if a0_2 < 0 then (easementref18_Needs.j0 k l1 true a0_0 a0_1 a0_2 a0_3 a0_4) else (if a0_2 ≥ (l1.length : Int) then (easementref18_Needs.j0 k l1 true a0_0 a0_1 a0_2 a0_3 a0_4) else ((easementref18_Region.f a0_0).bind fun t264 => (if t264 = true then (if a0_3 < 0 then (easementref18_Needs.j0 k l1 true a0_0 a0_1 a0_2 a0_3 a0_4) else (easementref18_Needs.j0 k l1 (decide (a0_3 ≥ a2)) a0_0 a0_1 a0_2 a0_3 a0_4)) else (easementref18_Needs.j0 k l1 false a0_0 a0_1 a0_2 a0_3 a0_4))))) else ((easementref18_Region.f a0_0).bind fun t265 => (if t265 = true then (if a0_3 < 0 then (easementref18_Needs.j0 k l1 true a0_0 a0_1 a0_2 a0_3 a0_4) else (easementref18_Needs.j0 k l1 (decide (a0_3 ≥ a2)) a0_0 a0_1 a0_2 a0_3 a0_4)) else (easementref18_Needs.j0 k l1 false a0_0 a0_1 a0_2 a0_3 a0_4)))) = some (r1, r2) := H
      have A16 := Aside0.mk A160
      clear A160
      by_cases c17 : t263 = true
      ·subst c17
       have H1 : (if a0_2 < 0 then (easementref18_Needs.j0 k l1 true a0_0 a0_1 a0_2 a0_3 a0_4) else (if a0_2 ≥ (l1.length : Int) then (easementref18_Needs.j0 k l1 true a0_0 a0_1 a0_2 a0_3 a0_4) else ((easementref18_Region.f a0_0).bind fun t264 => (if t264 = true then (if a0_3 < 0 then (easementref18_Needs.j0 k l1 true a0_0 a0_1 a0_2 a0_3 a0_4) else (easementref18_Needs.j0 k l1 (decide (a0_3 ≥ a2)) a0_0 a0_1 a0_2 a0_3 a0_4)) else (easementref18_Needs.j0 k l1 false a0_0 a0_1 a0_2 a0_3 a0_4))))) = some (r1, r2) := by rw [if_pos rfl] at H; exact H
       clear H
       have H := H1
       clear H1
       by_cases c18 : a0_2 < 0
       ·rw [if_pos c18] at H
        have c18b0 : decide (a0_2 < 0) = true := decide_eq_true c18
        clear c18
        have H' := Aside0.mk H
        clear H
        have hcz19_0 : w9.cell? ⟨gb260, 0, none⟩ = some (.int .i64 a0_0) := (bC BK260.out 0).trans rfl
        have hcz19_1 : w9.cell? ⟨gb260, 1, none⟩ = some (.int .i64 a0_1) := (bC BK260.out 1).trans rfl
        have hcz19_2 : w9.cell? ⟨gb260, 2, none⟩ = some (.int .i64 a0_2) := (bC BK260.out 2).trans rfl
        have hcz19_3 : w9.cell? ⟨gb260, 3, none⟩ = some (.int .i64 a0_3) := (bC BK260.out 3).trans rfl
        have hcz19_4 : w9.cell? ⟨gb260, 4, none⟩ = some (.bool a0_4) := (bC BK260.out 4).trans rfl
        have hfz19_0 := bB BK260.out 0
        have hfz19_1 := bB BK260.out 1
        have hfz19_2 := bB BK260.out 2
        have hfz19_3 := bB BK260.out 3
        have hfz19_4 := bB BK260.out 4
        go_wp2_with (first | ((with_reducible refine bV (f := 61) rfl ?_); refine goesL_ (some 13) rfl rfl Try.func61 (by kernel_rfl) rfl #[.int .i64 a0_0] rfl (by (try simp only [List.map_toArray, List.map_cons, List.map_nil]); first | done | rfl | (simp only [List.length_drop, List.length_take]; rfl)) ?_; (with_reducible refine (easementref18_Dst.calls a0_0 true _ A10.out).mono ?_); rintro e w' ⟨rfl, ⟨nd, rfl⟩⟩; refine ⟨_, rfl, ?_⟩) | (go_at_call 62; (with_reducible refine (easementref18_Src.calls a0_0 true _ A16.out).mono ?_); rintro e w' ⟨rfl, ⟨nd, rfl⟩⟩))
        go_meet
        case rel => exact ⟨_, (true), (by first | rfl | (simp; done) | (simp [*]; done)), H', ⟨by first | omega | exact Nat.le_refl _⟩, ⟨by (with_reducible repeat (first | refine bG ?_ _ | refine bH ?_ | refine bF ?_ _)); exact BK260.out⟩, ⟨by repeat (first | (with_reducible first | exact HB.out | apply bE | apply bA | apply bD | refine bJ ?_ GE260.out) | exact HB.out)⟩⟩
       ·rw [if_neg c18] at H
        have c18b0 : decide (a0_2 < 0) = false := decide_eq_false c18
        clear c18
        by_cases c20 : a0_2 ≥ (l1.length : Int)
        ·rw [if_pos c20] at H
         have c20b0 : decide ((l1.length : Int) ≤ a0_2) = true := decide_eq_true c20
         clear c20
         have H' := Aside0.mk H
         clear H
         have hcz21_0 : w9.cell? ⟨gb260, 0, none⟩ = some (.int .i64 a0_0) := (bC BK260.out 0).trans rfl
         have hcz21_1 : w9.cell? ⟨gb260, 1, none⟩ = some (.int .i64 a0_1) := (bC BK260.out 1).trans rfl
         have hcz21_2 : w9.cell? ⟨gb260, 2, none⟩ = some (.int .i64 a0_2) := (bC BK260.out 2).trans rfl
         have hcz21_3 : w9.cell? ⟨gb260, 3, none⟩ = some (.int .i64 a0_3) := (bC BK260.out 3).trans rfl
         have hcz21_4 : w9.cell? ⟨gb260, 4, none⟩ = some (.bool a0_4) := (bC BK260.out 4).trans rfl
         have hfz21_0 := bB BK260.out 0
         have hfz21_1 := bB BK260.out 1
         have hfz21_2 := bB BK260.out 2
         have hfz21_3 := bB BK260.out 3
         have hfz21_4 := bB BK260.out 4
         go_wp2_with (first | ((with_reducible refine bV (f := 61) rfl ?_); refine goesL_ (some 13) rfl rfl Try.func61 (by kernel_rfl) rfl #[.int .i64 a0_0] rfl (by (try simp only [List.map_toArray, List.map_cons, List.map_nil]); first | done | rfl | (simp only [List.length_drop, List.length_take]; rfl)) ?_; (with_reducible refine (easementref18_Dst.calls a0_0 true _ A10.out).mono ?_); rintro e w' ⟨rfl, ⟨nd, rfl⟩⟩; refine ⟨_, rfl, ?_⟩) | (go_at_call 62; (with_reducible refine (easementref18_Src.calls a0_0 true _ A16.out).mono ?_); rintro e w' ⟨rfl, ⟨nd, rfl⟩⟩))
         go_meet
         case rel => exact ⟨_, (true), (by first | rfl | (simp; done) | (simp [*]; done)), H', ⟨by first | omega | exact Nat.le_refl _⟩, ⟨by (with_reducible repeat (first | refine bG ?_ _ | refine bH ?_ | refine bF ?_ _)); exact BK260.out⟩, ⟨by repeat (first | (with_reducible first | exact HB.out | apply bE | apply bA | apply bD | refine bJ ?_ GE260.out) | exact HB.out)⟩⟩
        ·rw [if_neg c20] at H
         have c20b0 : decide ((l1.length : Int) ≤ a0_2) = false := decide_eq_false c20
         clear c20
         replace H := Option.bind_eq_some_iff.mp H
         obtain ⟨t264, A220, H⟩ := H
         replace H : (if t264 = true then (if a0_3 < 0 then (easementref18_Needs.j0 k l1 true a0_0 a0_1 a0_2 a0_3 a0_4) else (easementref18_Needs.j0 k l1 (decide (a0_3 ≥ a2)) a0_0 a0_1 a0_2 a0_3 a0_4)) else (easementref18_Needs.j0 k l1 false a0_0 a0_1 a0_2 a0_3 a0_4)) = some (r1, r2) := H
         have A22 := Aside0.mk A220
         clear A220
         by_cases c23 : t264 = true
         ·subst c23
          have H1 : (if a0_3 < 0 then (easementref18_Needs.j0 k l1 true a0_0 a0_1 a0_2 a0_3 a0_4) else (easementref18_Needs.j0 k l1 (decide (a0_3 ≥ a2)) a0_0 a0_1 a0_2 a0_3 a0_4)) = some (r1, r2) := by rw [if_pos rfl] at H; exact H
          clear H
          have H := H1
          clear H1
          by_cases c24 : a0_3 < 0
          ·rw [if_pos c24] at H
           have c24b0 : decide (a0_3 < 0) = true := decide_eq_true c24
           clear c24
           have H' := Aside0.mk H
           clear H
           have hcz25_0 : w9.cell? ⟨gb260, 0, none⟩ = some (.int .i64 a0_0) := (bC BK260.out 0).trans rfl
           have hcz25_1 : w9.cell? ⟨gb260, 1, none⟩ = some (.int .i64 a0_1) := (bC BK260.out 1).trans rfl
           have hcz25_2 : w9.cell? ⟨gb260, 2, none⟩ = some (.int .i64 a0_2) := (bC BK260.out 2).trans rfl
           have hcz25_3 : w9.cell? ⟨gb260, 3, none⟩ = some (.int .i64 a0_3) := (bC BK260.out 3).trans rfl
           have hcz25_4 : w9.cell? ⟨gb260, 4, none⟩ = some (.bool a0_4) := (bC BK260.out 4).trans rfl
           have hfz25_0 := bB BK260.out 0
           have hfz25_1 := bB BK260.out 1
           have hfz25_2 := bB BK260.out 2
           have hfz25_3 := bB BK260.out 3
           have hfz25_4 := bB BK260.out 4
           go_wp2_with (first | ((with_reducible refine bV (f := 61) rfl ?_); refine goesL_ (some 13) rfl rfl Try.func61 (by kernel_rfl) rfl #[.int .i64 a0_0] rfl (by (try simp only [List.map_toArray, List.map_cons, List.map_nil]); first | done | rfl | (simp only [List.length_drop, List.length_take]; rfl)) ?_; (with_reducible refine (easementref18_Dst.calls a0_0 true _ A10.out).mono ?_); rintro e w' ⟨rfl, ⟨nd, rfl⟩⟩; refine ⟨_, rfl, ?_⟩) | (go_at_call 62; (with_reducible refine (easementref18_Src.calls a0_0 true _ A16.out).mono ?_); rintro e w' ⟨rfl, ⟨nd, rfl⟩⟩) | (go_at_call 63; (with_reducible refine (easementref18_Region.calls a0_0 true _ A22.out).mono ?_); rintro e w' ⟨rfl, ⟨nd, rfl⟩⟩))
           go_meet
           case rel => exact ⟨_, (true), (by first | rfl | (simp; done) | (simp [*]; done)), H', ⟨by first | omega | exact Nat.le_refl _⟩, ⟨by (with_reducible repeat (first | refine bG ?_ _ | refine bH ?_ | refine bF ?_ _)); exact BK260.out⟩, ⟨by repeat (first | (with_reducible first | exact HB.out | apply bE | apply bA | apply bD | refine bJ ?_ GE260.out) | exact HB.out)⟩⟩
          ·rw [if_neg c24] at H
           have c24b0 : decide (a0_3 < 0) = false := decide_eq_false c24
           clear c24
           have H' := Aside0.mk H
           clear H
           have hcz26_0 : w9.cell? ⟨gb260, 0, none⟩ = some (.int .i64 a0_0) := (bC BK260.out 0).trans rfl
           have hcz26_1 : w9.cell? ⟨gb260, 1, none⟩ = some (.int .i64 a0_1) := (bC BK260.out 1).trans rfl
           have hcz26_2 : w9.cell? ⟨gb260, 2, none⟩ = some (.int .i64 a0_2) := (bC BK260.out 2).trans rfl
           have hcz26_3 : w9.cell? ⟨gb260, 3, none⟩ = some (.int .i64 a0_3) := (bC BK260.out 3).trans rfl
           have hcz26_4 : w9.cell? ⟨gb260, 4, none⟩ = some (.bool a0_4) := (bC BK260.out 4).trans rfl
           have hfz26_0 := bB BK260.out 0
           have hfz26_1 := bB BK260.out 1
           have hfz26_2 := bB BK260.out 2
           have hfz26_3 := bB BK260.out 3
           have hfz26_4 := bB BK260.out 4
           go_wp2_with (first | ((with_reducible refine bV (f := 61) rfl ?_); refine goesL_ (some 13) rfl rfl Try.func61 (by kernel_rfl) rfl #[.int .i64 a0_0] rfl (by (try simp only [List.map_toArray, List.map_cons, List.map_nil]); first | done | rfl | (simp only [List.length_drop, List.length_take]; rfl)) ?_; (with_reducible refine (easementref18_Dst.calls a0_0 true _ A10.out).mono ?_); rintro e w' ⟨rfl, ⟨nd, rfl⟩⟩; refine ⟨_, rfl, ?_⟩) | (go_at_call 62; (with_reducible refine (easementref18_Src.calls a0_0 true _ A16.out).mono ?_); rintro e w' ⟨rfl, ⟨nd, rfl⟩⟩) | (go_at_call 63; (with_reducible refine (easementref18_Region.calls a0_0 true _ A22.out).mono ?_); rintro e w' ⟨rfl, ⟨nd, rfl⟩⟩))
           go_meet
           case rel => exact ⟨_, (decide (a0_3 ≥ a2)), (by first | rfl | (simp; done) | (simp [*]; done)), H', ⟨by first | omega | exact Nat.le_refl _⟩, ⟨by (with_reducible repeat (first | refine bG ?_ _ | refine bH ?_ | refine bF ?_ _)); exact BK260.out⟩, ⟨by repeat (first | (with_reducible first | exact HB.out | apply bE | apply bA | apply bD | refine bJ ?_ GE260.out) | exact HB.out)⟩⟩
         ·replace c23 := Bool.eq_false_iff.mpr c23
          subst c23
          have H1 : (easementref18_Needs.j0 k l1 false a0_0 a0_1 a0_2 a0_3 a0_4) = some (r1, r2) := by rw [if_neg (show ¬ (false = true) by decide)] at H; exact H
          clear H
          have H := H1
          clear H1
          have H' := Aside0.mk H
          clear H
          have hcz27_0 : w9.cell? ⟨gb260, 0, none⟩ = some (.int .i64 a0_0) := (bC BK260.out 0).trans rfl
          have hcz27_1 : w9.cell? ⟨gb260, 1, none⟩ = some (.int .i64 a0_1) := (bC BK260.out 1).trans rfl
          have hcz27_2 : w9.cell? ⟨gb260, 2, none⟩ = some (.int .i64 a0_2) := (bC BK260.out 2).trans rfl
          have hcz27_3 : w9.cell? ⟨gb260, 3, none⟩ = some (.int .i64 a0_3) := (bC BK260.out 3).trans rfl
          have hcz27_4 : w9.cell? ⟨gb260, 4, none⟩ = some (.bool a0_4) := (bC BK260.out 4).trans rfl
          have hfz27_0 := bB BK260.out 0
          have hfz27_1 := bB BK260.out 1
          have hfz27_2 := bB BK260.out 2
          have hfz27_3 := bB BK260.out 3
          have hfz27_4 := bB BK260.out 4
          go_wp2_with (first | ((with_reducible refine bV (f := 61) rfl ?_); refine goesL_ (some 13) rfl rfl Try.func61 (by kernel_rfl) rfl #[.int .i64 a0_0] rfl (by (try simp only [List.map_toArray, List.map_cons, List.map_nil]); first | done | rfl | (simp only [List.length_drop, List.length_take]; rfl)) ?_; (with_reducible refine (easementref18_Dst.calls a0_0 true _ A10.out).mono ?_); rintro e w' ⟨rfl, ⟨nd, rfl⟩⟩; refine ⟨_, rfl, ?_⟩) | (go_at_call 62; (with_reducible refine (easementref18_Src.calls a0_0 true _ A16.out).mono ?_); rintro e w' ⟨rfl, ⟨nd, rfl⟩⟩) | (go_at_call 63; (with_reducible refine (easementref18_Region.calls a0_0 false _ A22.out).mono ?_); rintro e w' ⟨rfl, ⟨nd, rfl⟩⟩))
          go_meet
          case rel => exact ⟨_, (false), (by first | rfl | (simp; done) | (simp [*]; done)), H', ⟨by first | omega | exact Nat.le_refl _⟩, ⟨by (with_reducible repeat (first | refine bG ?_ _ | refine bH ?_ | refine bF ?_ _)); exact BK260.out⟩, ⟨by repeat (first | (with_reducible first | exact HB.out | apply bE | apply bA | apply bD | refine bJ ?_ GE260.out) | exact HB.out)⟩⟩
      ·replace c17 := Bool.eq_false_iff.mpr c17
       subst c17
       have H1 : ((easementref18_Region.f a0_0).bind fun t265 => (if t265 = true then (if a0_3 < 0 then (easementref18_Needs.j0 k l1 true a0_0 a0_1 a0_2 a0_3 a0_4) else (easementref18_Needs.j0 k l1 (decide (a0_3 ≥ a2)) a0_0 a0_1 a0_2 a0_3 a0_4)) else (easementref18_Needs.j0 k l1 false a0_0 a0_1 a0_2 a0_3 a0_4))) = some (r1, r2) := by rw [if_neg (show ¬ (false = true) by decide)] at H; exact H
       clear H
       have H := H1
       clear H1
       replace H := Option.bind_eq_some_iff.mp H
       obtain ⟨t265, A280, H⟩ := H
       replace H : (if t265 = true then (if a0_3 < 0 then (easementref18_Needs.j0 k l1 true a0_0 a0_1 a0_2 a0_3 a0_4) else (easementref18_Needs.j0 k l1 (decide (a0_3 ≥ a2)) a0_0 a0_1 a0_2 a0_3 a0_4)) else (easementref18_Needs.j0 k l1 false a0_0 a0_1 a0_2 a0_3 a0_4)) = some (r1, r2) := H
       have A28 := Aside0.mk A280
       clear A280
       by_cases c29 : t265 = true
       ·subst c29
        have H1 : (if a0_3 < 0 then (easementref18_Needs.j0 k l1 true a0_0 a0_1 a0_2 a0_3 a0_4) else (easementref18_Needs.j0 k l1 (decide (a0_3 ≥ a2)) a0_0 a0_1 a0_2 a0_3 a0_4)) = some (r1, r2) := by rw [if_pos rfl] at H; exact H
        clear H
        have H := H1
        clear H1
        by_cases c30 : a0_3 < 0
        ·rw [if_pos c30] at H
         have c30b0 : decide (a0_3 < 0) = true := decide_eq_true c30
         clear c30
         have H' := Aside0.mk H
         clear H
         have hcz31_0 : w9.cell? ⟨gb260, 0, none⟩ = some (.int .i64 a0_0) := (bC BK260.out 0).trans rfl
         have hcz31_1 : w9.cell? ⟨gb260, 1, none⟩ = some (.int .i64 a0_1) := (bC BK260.out 1).trans rfl
         have hcz31_2 : w9.cell? ⟨gb260, 2, none⟩ = some (.int .i64 a0_2) := (bC BK260.out 2).trans rfl
         have hcz31_3 : w9.cell? ⟨gb260, 3, none⟩ = some (.int .i64 a0_3) := (bC BK260.out 3).trans rfl
         have hcz31_4 : w9.cell? ⟨gb260, 4, none⟩ = some (.bool a0_4) := (bC BK260.out 4).trans rfl
         have hfz31_0 := bB BK260.out 0
         have hfz31_1 := bB BK260.out 1
         have hfz31_2 := bB BK260.out 2
         have hfz31_3 := bB BK260.out 3
         have hfz31_4 := bB BK260.out 4
         go_wp2_with (first | ((with_reducible refine bV (f := 61) rfl ?_); refine goesL_ (some 13) rfl rfl Try.func61 (by kernel_rfl) rfl #[.int .i64 a0_0] rfl (by (try simp only [List.map_toArray, List.map_cons, List.map_nil]); first | done | rfl | (simp only [List.length_drop, List.length_take]; rfl)) ?_; (with_reducible refine (easementref18_Dst.calls a0_0 true _ A10.out).mono ?_); rintro e w' ⟨rfl, ⟨nd, rfl⟩⟩; refine ⟨_, rfl, ?_⟩) | (go_at_call 62; (with_reducible refine (easementref18_Src.calls a0_0 false _ A16.out).mono ?_); rintro e w' ⟨rfl, ⟨nd, rfl⟩⟩) | (go_at_call 63; (with_reducible refine (easementref18_Region.calls a0_0 true _ A28.out).mono ?_); rintro e w' ⟨rfl, ⟨nd, rfl⟩⟩))
         go_meet
         case rel => exact ⟨_, (true), (by first | rfl | (simp; done) | (simp [*]; done)), H', ⟨by first | omega | exact Nat.le_refl _⟩, ⟨by (with_reducible repeat (first | refine bG ?_ _ | refine bH ?_ | refine bF ?_ _)); exact BK260.out⟩, ⟨by repeat (first | (with_reducible first | exact HB.out | apply bE | apply bA | apply bD | refine bJ ?_ GE260.out) | exact HB.out)⟩⟩
        ·rw [if_neg c30] at H
         have c30b0 : decide (a0_3 < 0) = false := decide_eq_false c30
         clear c30
         have H' := Aside0.mk H
         clear H
         have hcz32_0 : w9.cell? ⟨gb260, 0, none⟩ = some (.int .i64 a0_0) := (bC BK260.out 0).trans rfl
         have hcz32_1 : w9.cell? ⟨gb260, 1, none⟩ = some (.int .i64 a0_1) := (bC BK260.out 1).trans rfl
         have hcz32_2 : w9.cell? ⟨gb260, 2, none⟩ = some (.int .i64 a0_2) := (bC BK260.out 2).trans rfl
         have hcz32_3 : w9.cell? ⟨gb260, 3, none⟩ = some (.int .i64 a0_3) := (bC BK260.out 3).trans rfl
         have hcz32_4 : w9.cell? ⟨gb260, 4, none⟩ = some (.bool a0_4) := (bC BK260.out 4).trans rfl
         have hfz32_0 := bB BK260.out 0
         have hfz32_1 := bB BK260.out 1
         have hfz32_2 := bB BK260.out 2
         have hfz32_3 := bB BK260.out 3
         have hfz32_4 := bB BK260.out 4
         go_wp2_with (first | ((with_reducible refine bV (f := 61) rfl ?_); refine goesL_ (some 13) rfl rfl Try.func61 (by kernel_rfl) rfl #[.int .i64 a0_0] rfl (by (try simp only [List.map_toArray, List.map_cons, List.map_nil]); first | done | rfl | (simp only [List.length_drop, List.length_take]; rfl)) ?_; (with_reducible refine (easementref18_Dst.calls a0_0 true _ A10.out).mono ?_); rintro e w' ⟨rfl, ⟨nd, rfl⟩⟩; refine ⟨_, rfl, ?_⟩) | (go_at_call 62; (with_reducible refine (easementref18_Src.calls a0_0 false _ A16.out).mono ?_); rintro e w' ⟨rfl, ⟨nd, rfl⟩⟩) | (go_at_call 63; (with_reducible refine (easementref18_Region.calls a0_0 true _ A28.out).mono ?_); rintro e w' ⟨rfl, ⟨nd, rfl⟩⟩))
         go_meet
         case rel => exact ⟨_, (decide (a0_3 ≥ a2)), (by first | rfl | (simp; done) | (simp [*]; done)), H', ⟨by first | omega | exact Nat.le_refl _⟩, ⟨by (with_reducible repeat (first | refine bG ?_ _ | refine bH ?_ | refine bF ?_ _)); exact BK260.out⟩, ⟨by repeat (first | (with_reducible first | exact HB.out | apply bE | apply bA | apply bD | refine bJ ?_ GE260.out) | exact HB.out)⟩⟩
       ·replace c29 := Bool.eq_false_iff.mpr c29
        subst c29
        have H1 : (easementref18_Needs.j0 k l1 false a0_0 a0_1 a0_2 a0_3 a0_4) = some (r1, r2) := by rw [if_neg (show ¬ (false = true) by decide)] at H; exact H
        clear H
        have H := H1
        clear H1
        have H' := Aside0.mk H
        clear H
        have hcz33_0 : w9.cell? ⟨gb260, 0, none⟩ = some (.int .i64 a0_0) := (bC BK260.out 0).trans rfl
        have hcz33_1 : w9.cell? ⟨gb260, 1, none⟩ = some (.int .i64 a0_1) := (bC BK260.out 1).trans rfl
        have hcz33_2 : w9.cell? ⟨gb260, 2, none⟩ = some (.int .i64 a0_2) := (bC BK260.out 2).trans rfl
        have hcz33_3 : w9.cell? ⟨gb260, 3, none⟩ = some (.int .i64 a0_3) := (bC BK260.out 3).trans rfl
        have hcz33_4 : w9.cell? ⟨gb260, 4, none⟩ = some (.bool a0_4) := (bC BK260.out 4).trans rfl
        have hfz33_0 := bB BK260.out 0
        have hfz33_1 := bB BK260.out 1
        have hfz33_2 := bB BK260.out 2
        have hfz33_3 := bB BK260.out 3
        have hfz33_4 := bB BK260.out 4
        go_wp2_with (first | ((with_reducible refine bV (f := 61) rfl ?_); refine goesL_ (some 13) rfl rfl Try.func61 (by kernel_rfl) rfl #[.int .i64 a0_0] rfl (by (try simp only [List.map_toArray, List.map_cons, List.map_nil]); first | done | rfl | (simp only [List.length_drop, List.length_take]; rfl)) ?_; (with_reducible refine (easementref18_Dst.calls a0_0 true _ A10.out).mono ?_); rintro e w' ⟨rfl, ⟨nd, rfl⟩⟩; refine ⟨_, rfl, ?_⟩) | (go_at_call 62; (with_reducible refine (easementref18_Src.calls a0_0 false _ A16.out).mono ?_); rintro e w' ⟨rfl, ⟨nd, rfl⟩⟩) | (go_at_call 63; (with_reducible refine (easementref18_Region.calls a0_0 false _ A28.out).mono ?_); rintro e w' ⟨rfl, ⟨nd, rfl⟩⟩))
        go_meet
        case rel => exact ⟨_, (false), (by first | rfl | (simp; done) | (simp [*]; done)), H', ⟨by first | omega | exact Nat.le_refl _⟩, ⟨by (with_reducible repeat (first | refine bG ?_ _ | refine bH ?_ | refine bF ?_ _)); exact BK260.out⟩, ⟨by repeat (first | (with_reducible first | exact HB.out | apply bE | apply bA | apply bD | refine bJ ?_ GE260.out) | exact HB.out)⟩⟩
   ·replace c11 := Bool.eq_false_iff.mpr c11
    subst c11
    have H1 : ((easementref18_Src.f a0_0).bind fun t266 => (if t266 = true then (if a0_2 < 0 then (easementref18_Needs.j0 k l1 true a0_0 a0_1 a0_2 a0_3 a0_4) else (if a0_2 ≥ (l1.length : Int) then (easementref18_Needs.j0 k l1 true a0_0 a0_1 a0_2 a0_3 a0_4) else ((easementref18_Region.f a0_0).bind fun t267 => (if t267 = true then (if a0_3 < 0 then (easementref18_Needs.j0 k l1 true a0_0 a0_1 a0_2 a0_3 a0_4) else (easementref18_Needs.j0 k l1 (decide (a0_3 ≥ a2)) a0_0 a0_1 a0_2 a0_3 a0_4)) else (easementref18_Needs.j0 k l1 false a0_0 a0_1 a0_2 a0_3 a0_4))))) else ((easementref18_Region.f a0_0).bind fun t268 => (if t268 = true then (if a0_3 < 0 then (easementref18_Needs.j0 k l1 true a0_0 a0_1 a0_2 a0_3 a0_4) else (easementref18_Needs.j0 k l1 (decide (a0_3 ≥ a2)) a0_0 a0_1 a0_2 a0_3 a0_4)) else (easementref18_Needs.j0 k l1 false a0_0 a0_1 a0_2 a0_3 a0_4))))) = some (r1, r2) := by rw [if_neg (show ¬ (false = true) by decide)] at H; exact H
    clear H
    have H := H1
    clear H1
    replace H := Option.bind_eq_some_iff.mp H
    obtain ⟨t266, A340, H⟩ := H
    replace H : (if t266 = true then (if a0_2 < 0 then (easementref18_Needs.j0 k l1 true a0_0 a0_1 a0_2 a0_3 a0_4) else (if a0_2 ≥ (l1.length : Int) then (easementref18_Needs.j0 k l1 true a0_0 a0_1 a0_2 a0_3 a0_4) else ((easementref18_Region.f a0_0).bind fun t267 => (if t267 = true then (if a0_3 < 0 then (easementref18_Needs.j0 k l1 true a0_0 a0_1 a0_2 a0_3 a0_4) else (easementref18_Needs.j0 k l1 (decide (a0_3 ≥ a2)) a0_0 a0_1 a0_2 a0_3 a0_4)) else (easementref18_Needs.j0 k l1 false a0_0 a0_1 a0_2 a0_3 a0_4))))) else ((easementref18_Region.f a0_0).bind fun t268 => (if t268 = true then (if a0_3 < 0 then (easementref18_Needs.j0 k l1 true a0_0 a0_1 a0_2 a0_3 a0_4) else (easementref18_Needs.j0 k l1 (decide (a0_3 ≥ a2)) a0_0 a0_1 a0_2 a0_3 a0_4)) else (easementref18_Needs.j0 k l1 false a0_0 a0_1 a0_2 a0_3 a0_4)))) = some (r1, r2) := H
    have A34 := Aside0.mk A340
    clear A340
    by_cases c35 : t266 = true
    ·subst c35
     have H1 : (if a0_2 < 0 then (easementref18_Needs.j0 k l1 true a0_0 a0_1 a0_2 a0_3 a0_4) else (if a0_2 ≥ (l1.length : Int) then (easementref18_Needs.j0 k l1 true a0_0 a0_1 a0_2 a0_3 a0_4) else ((easementref18_Region.f a0_0).bind fun t267 => (if t267 = true then (if a0_3 < 0 then (easementref18_Needs.j0 k l1 true a0_0 a0_1 a0_2 a0_3 a0_4) else (easementref18_Needs.j0 k l1 (decide (a0_3 ≥ a2)) a0_0 a0_1 a0_2 a0_3 a0_4)) else (easementref18_Needs.j0 k l1 false a0_0 a0_1 a0_2 a0_3 a0_4))))) = some (r1, r2) := by rw [if_pos rfl] at H; exact H
     clear H
     have H := H1
     clear H1
     by_cases c36 : a0_2 < 0
     ·rw [if_pos c36] at H
      have c36b0 : decide (a0_2 < 0) = true := decide_eq_true c36
      clear c36
      have H' := Aside0.mk H
      clear H
      have hcz37_0 : w9.cell? ⟨gb260, 0, none⟩ = some (.int .i64 a0_0) := (bC BK260.out 0).trans rfl
      have hcz37_1 : w9.cell? ⟨gb260, 1, none⟩ = some (.int .i64 a0_1) := (bC BK260.out 1).trans rfl
      have hcz37_2 : w9.cell? ⟨gb260, 2, none⟩ = some (.int .i64 a0_2) := (bC BK260.out 2).trans rfl
      have hcz37_3 : w9.cell? ⟨gb260, 3, none⟩ = some (.int .i64 a0_3) := (bC BK260.out 3).trans rfl
      have hcz37_4 : w9.cell? ⟨gb260, 4, none⟩ = some (.bool a0_4) := (bC BK260.out 4).trans rfl
      have hfz37_0 := bB BK260.out 0
      have hfz37_1 := bB BK260.out 1
      have hfz37_2 := bB BK260.out 2
      have hfz37_3 := bB BK260.out 3
      have hfz37_4 := bB BK260.out 4
      go_wp2_with (first | ((with_reducible refine bV (f := 61) rfl ?_); refine goesL_ (some 13) rfl rfl Try.func61 (by kernel_rfl) rfl #[.int .i64 a0_0] rfl (by (try simp only [List.map_toArray, List.map_cons, List.map_nil]); first | done | rfl | (simp only [List.length_drop, List.length_take]; rfl)) ?_; (with_reducible refine (easementref18_Dst.calls a0_0 false _ A10.out).mono ?_); rintro e w' ⟨rfl, ⟨nd, rfl⟩⟩; refine ⟨_, rfl, ?_⟩) | (go_at_call 62; (with_reducible refine (easementref18_Src.calls a0_0 true _ A34.out).mono ?_); rintro e w' ⟨rfl, ⟨nd, rfl⟩⟩))
      go_meet
      case rel => exact ⟨_, (true), (by first | rfl | (simp; done) | (simp [*]; done)), H', ⟨by first | omega | exact Nat.le_refl _⟩, ⟨by (with_reducible repeat (first | refine bG ?_ _ | refine bH ?_ | refine bF ?_ _)); exact BK260.out⟩, ⟨by repeat (first | (with_reducible first | exact HB.out | apply bE | apply bA | apply bD | refine bJ ?_ GE260.out) | exact HB.out)⟩⟩
     ·rw [if_neg c36] at H
      have c36b0 : decide (a0_2 < 0) = false := decide_eq_false c36
      clear c36
      by_cases c38 : a0_2 ≥ (l1.length : Int)
      ·rw [if_pos c38] at H
       have c38b0 : decide ((l1.length : Int) ≤ a0_2) = true := decide_eq_true c38
       clear c38
       have H' := Aside0.mk H
       clear H
       have hcz39_0 : w9.cell? ⟨gb260, 0, none⟩ = some (.int .i64 a0_0) := (bC BK260.out 0).trans rfl
       have hcz39_1 : w9.cell? ⟨gb260, 1, none⟩ = some (.int .i64 a0_1) := (bC BK260.out 1).trans rfl
       have hcz39_2 : w9.cell? ⟨gb260, 2, none⟩ = some (.int .i64 a0_2) := (bC BK260.out 2).trans rfl
       have hcz39_3 : w9.cell? ⟨gb260, 3, none⟩ = some (.int .i64 a0_3) := (bC BK260.out 3).trans rfl
       have hcz39_4 : w9.cell? ⟨gb260, 4, none⟩ = some (.bool a0_4) := (bC BK260.out 4).trans rfl
       have hfz39_0 := bB BK260.out 0
       have hfz39_1 := bB BK260.out 1
       have hfz39_2 := bB BK260.out 2
       have hfz39_3 := bB BK260.out 3
       have hfz39_4 := bB BK260.out 4
       go_wp2_with (first | ((with_reducible refine bV (f := 61) rfl ?_); refine goesL_ (some 13) rfl rfl Try.func61 (by kernel_rfl) rfl #[.int .i64 a0_0] rfl (by (try simp only [List.map_toArray, List.map_cons, List.map_nil]); first | done | rfl | (simp only [List.length_drop, List.length_take]; rfl)) ?_; (with_reducible refine (easementref18_Dst.calls a0_0 false _ A10.out).mono ?_); rintro e w' ⟨rfl, ⟨nd, rfl⟩⟩; refine ⟨_, rfl, ?_⟩) | (go_at_call 62; (with_reducible refine (easementref18_Src.calls a0_0 true _ A34.out).mono ?_); rintro e w' ⟨rfl, ⟨nd, rfl⟩⟩))
       go_meet
       case rel => exact ⟨_, (true), (by first | rfl | (simp; done) | (simp [*]; done)), H', ⟨by first | omega | exact Nat.le_refl _⟩, ⟨by (with_reducible repeat (first | refine bG ?_ _ | refine bH ?_ | refine bF ?_ _)); exact BK260.out⟩, ⟨by repeat (first | (with_reducible first | exact HB.out | apply bE | apply bA | apply bD | refine bJ ?_ GE260.out) | exact HB.out)⟩⟩
      ·rw [if_neg c38] at H
       have c38b0 : decide ((l1.length : Int) ≤ a0_2) = false := decide_eq_false c38
       clear c38
       replace H := Option.bind_eq_some_iff.mp H
       obtain ⟨t267, A400, H⟩ := H
       replace H : (if t267 = true then (if a0_3 < 0 then (easementref18_Needs.j0 k l1 true a0_0 a0_1 a0_2 a0_3 a0_4) else (easementref18_Needs.j0 k l1 (decide (a0_3 ≥ a2)) a0_0 a0_1 a0_2 a0_3 a0_4)) else (easementref18_Needs.j0 k l1 false a0_0 a0_1 a0_2 a0_3 a0_4)) = some (r1, r2) := H
       have A40 := Aside0.mk A400
       clear A400
       by_cases c41 : t267 = true
       ·subst c41
        have H1 : (if a0_3 < 0 then (easementref18_Needs.j0 k l1 true a0_0 a0_1 a0_2 a0_3 a0_4) else (easementref18_Needs.j0 k l1 (decide (a0_3 ≥ a2)) a0_0 a0_1 a0_2 a0_3 a0_4)) = some (r1, r2) := by rw [if_pos rfl] at H; exact H
        clear H
        have H := H1
        clear H1
        by_cases c42 : a0_3 < 0
        ·rw [if_pos c42] at H
         have c42b0 : decide (a0_3 < 0) = true := decide_eq_true c42
         clear c42
         have H' := Aside0.mk H
         clear H
         have hcz43_0 : w9.cell? ⟨gb260, 0, none⟩ = some (.int .i64 a0_0) := (bC BK260.out 0).trans rfl
         have hcz43_1 : w9.cell? ⟨gb260, 1, none⟩ = some (.int .i64 a0_1) := (bC BK260.out 1).trans rfl
         have hcz43_2 : w9.cell? ⟨gb260, 2, none⟩ = some (.int .i64 a0_2) := (bC BK260.out 2).trans rfl
         have hcz43_3 : w9.cell? ⟨gb260, 3, none⟩ = some (.int .i64 a0_3) := (bC BK260.out 3).trans rfl
         have hcz43_4 : w9.cell? ⟨gb260, 4, none⟩ = some (.bool a0_4) := (bC BK260.out 4).trans rfl
         have hfz43_0 := bB BK260.out 0
         have hfz43_1 := bB BK260.out 1
         have hfz43_2 := bB BK260.out 2
         have hfz43_3 := bB BK260.out 3
         have hfz43_4 := bB BK260.out 4
         go_wp2_with (first | ((with_reducible refine bV (f := 61) rfl ?_); refine goesL_ (some 13) rfl rfl Try.func61 (by kernel_rfl) rfl #[.int .i64 a0_0] rfl (by (try simp only [List.map_toArray, List.map_cons, List.map_nil]); first | done | rfl | (simp only [List.length_drop, List.length_take]; rfl)) ?_; (with_reducible refine (easementref18_Dst.calls a0_0 false _ A10.out).mono ?_); rintro e w' ⟨rfl, ⟨nd, rfl⟩⟩; refine ⟨_, rfl, ?_⟩) | (go_at_call 62; (with_reducible refine (easementref18_Src.calls a0_0 true _ A34.out).mono ?_); rintro e w' ⟨rfl, ⟨nd, rfl⟩⟩) | (go_at_call 63; (with_reducible refine (easementref18_Region.calls a0_0 true _ A40.out).mono ?_); rintro e w' ⟨rfl, ⟨nd, rfl⟩⟩))
         go_meet
         case rel => exact ⟨_, (true), (by first | rfl | (simp; done) | (simp [*]; done)), H', ⟨by first | omega | exact Nat.le_refl _⟩, ⟨by (with_reducible repeat (first | refine bG ?_ _ | refine bH ?_ | refine bF ?_ _)); exact BK260.out⟩, ⟨by repeat (first | (with_reducible first | exact HB.out | apply bE | apply bA | apply bD | refine bJ ?_ GE260.out) | exact HB.out)⟩⟩
        ·rw [if_neg c42] at H
         have c42b0 : decide (a0_3 < 0) = false := decide_eq_false c42
         clear c42
         have H' := Aside0.mk H
         clear H
         have hcz44_0 : w9.cell? ⟨gb260, 0, none⟩ = some (.int .i64 a0_0) := (bC BK260.out 0).trans rfl
         have hcz44_1 : w9.cell? ⟨gb260, 1, none⟩ = some (.int .i64 a0_1) := (bC BK260.out 1).trans rfl
         have hcz44_2 : w9.cell? ⟨gb260, 2, none⟩ = some (.int .i64 a0_2) := (bC BK260.out 2).trans rfl
         have hcz44_3 : w9.cell? ⟨gb260, 3, none⟩ = some (.int .i64 a0_3) := (bC BK260.out 3).trans rfl
         have hcz44_4 : w9.cell? ⟨gb260, 4, none⟩ = some (.bool a0_4) := (bC BK260.out 4).trans rfl
         have hfz44_0 := bB BK260.out 0
         have hfz44_1 := bB BK260.out 1
         have hfz44_2 := bB BK260.out 2
         have hfz44_3 := bB BK260.out 3
         have hfz44_4 := bB BK260.out 4
         go_wp2_with (first | ((with_reducible refine bV (f := 61) rfl ?_); refine goesL_ (some 13) rfl rfl Try.func61 (by kernel_rfl) rfl #[.int .i64 a0_0] rfl (by (try simp only [List.map_toArray, List.map_cons, List.map_nil]); first | done | rfl | (simp only [List.length_drop, List.length_take]; rfl)) ?_; (with_reducible refine (easementref18_Dst.calls a0_0 false _ A10.out).mono ?_); rintro e w' ⟨rfl, ⟨nd, rfl⟩⟩; refine ⟨_, rfl, ?_⟩) | (go_at_call 62; (with_reducible refine (easementref18_Src.calls a0_0 true _ A34.out).mono ?_); rintro e w' ⟨rfl, ⟨nd, rfl⟩⟩) | (go_at_call 63; (with_reducible refine (easementref18_Region.calls a0_0 true _ A40.out).mono ?_); rintro e w' ⟨rfl, ⟨nd, rfl⟩⟩))
         go_meet
         case rel => exact ⟨_, (decide (a0_3 ≥ a2)), (by first | rfl | (simp; done) | (simp [*]; done)), H', ⟨by first | omega | exact Nat.le_refl _⟩, ⟨by (with_reducible repeat (first | refine bG ?_ _ | refine bH ?_ | refine bF ?_ _)); exact BK260.out⟩, ⟨by repeat (first | (with_reducible first | exact HB.out | apply bE | apply bA | apply bD | refine bJ ?_ GE260.out) | exact HB.out)⟩⟩
       ·replace c41 := Bool.eq_false_iff.mpr c41
        subst c41
        have H1 : (easementref18_Needs.j0 k l1 false a0_0 a0_1 a0_2 a0_3 a0_4) = some (r1, r2) := by rw [if_neg (show ¬ (false = true) by decide)] at H; exact H
        clear H
        have H := H1
        clear H1
        have H' := Aside0.mk H
        clear H
        have hcz45_0 : w9.cell? ⟨gb260, 0, none⟩ = some (.int .i64 a0_0) := (bC BK260.out 0).trans rfl
        have hcz45_1 : w9.cell? ⟨gb260, 1, none⟩ = some (.int .i64 a0_1) := (bC BK260.out 1).trans rfl
        have hcz45_2 : w9.cell? ⟨gb260, 2, none⟩ = some (.int .i64 a0_2) := (bC BK260.out 2).trans rfl
        have hcz45_3 : w9.cell? ⟨gb260, 3, none⟩ = some (.int .i64 a0_3) := (bC BK260.out 3).trans rfl
        have hcz45_4 : w9.cell? ⟨gb260, 4, none⟩ = some (.bool a0_4) := (bC BK260.out 4).trans rfl
        have hfz45_0 := bB BK260.out 0
        have hfz45_1 := bB BK260.out 1
        have hfz45_2 := bB BK260.out 2
        have hfz45_3 := bB BK260.out 3
        have hfz45_4 := bB BK260.out 4
        go_wp2_with (first | ((with_reducible refine bV (f := 61) rfl ?_); refine goesL_ (some 13) rfl rfl Try.func61 (by kernel_rfl) rfl #[.int .i64 a0_0] rfl (by (try simp only [List.map_toArray, List.map_cons, List.map_nil]); first | done | rfl | (simp only [List.length_drop, List.length_take]; rfl)) ?_; (with_reducible refine (easementref18_Dst.calls a0_0 false _ A10.out).mono ?_); rintro e w' ⟨rfl, ⟨nd, rfl⟩⟩; refine ⟨_, rfl, ?_⟩) | (go_at_call 62; (with_reducible refine (easementref18_Src.calls a0_0 true _ A34.out).mono ?_); rintro e w' ⟨rfl, ⟨nd, rfl⟩⟩) | (go_at_call 63; (with_reducible refine (easementref18_Region.calls a0_0 false _ A40.out).mono ?_); rintro e w' ⟨rfl, ⟨nd, rfl⟩⟩))
        go_meet
        case rel => exact ⟨_, (false), (by first | rfl | (simp; done) | (simp [*]; done)), H', ⟨by first | omega | exact Nat.le_refl _⟩, ⟨by (with_reducible repeat (first | refine bG ?_ _ | refine bH ?_ | refine bF ?_ _)); exact BK260.out⟩, ⟨by repeat (first | (with_reducible first | exact HB.out | apply bE | apply bA | apply bD | refine bJ ?_ GE260.out) | exact HB.out)⟩⟩
    ·replace c35 := Bool.eq_false_iff.mpr c35
     subst c35
     have H1 : ((easementref18_Region.f a0_0).bind fun t268 => (if t268 = true then (if a0_3 < 0 then (easementref18_Needs.j0 k l1 true a0_0 a0_1 a0_2 a0_3 a0_4) else (easementref18_Needs.j0 k l1 (decide (a0_3 ≥ a2)) a0_0 a0_1 a0_2 a0_3 a0_4)) else (easementref18_Needs.j0 k l1 false a0_0 a0_1 a0_2 a0_3 a0_4))) = some (r1, r2) := by rw [if_neg (show ¬ (false = true) by decide)] at H; exact H
     clear H
     have H := H1
     clear H1
     replace H := Option.bind_eq_some_iff.mp H
     obtain ⟨t268, A460, H⟩ := H
     replace H : (if t268 = true then (if a0_3 < 0 then (easementref18_Needs.j0 k l1 true a0_0 a0_1 a0_2 a0_3 a0_4) else (easementref18_Needs.j0 k l1 (decide (a0_3 ≥ a2)) a0_0 a0_1 a0_2 a0_3 a0_4)) else (easementref18_Needs.j0 k l1 false a0_0 a0_1 a0_2 a0_3 a0_4)) = some (r1, r2) := H
     have A46 := Aside0.mk A460
     clear A460
     by_cases c47 : t268 = true
     ·subst c47
      have H1 : (if a0_3 < 0 then (easementref18_Needs.j0 k l1 true a0_0 a0_1 a0_2 a0_3 a0_4) else (easementref18_Needs.j0 k l1 (decide (a0_3 ≥ a2)) a0_0 a0_1 a0_2 a0_3 a0_4)) = some (r1, r2) := by rw [if_pos rfl] at H; exact H
      clear H
      have H := H1
      clear H1
      by_cases c48 : a0_3 < 0
      ·rw [if_pos c48] at H
       have c48b0 : decide (a0_3 < 0) = true := decide_eq_true c48
       clear c48
       have H' := Aside0.mk H
       clear H
       have hcz49_0 : w9.cell? ⟨gb260, 0, none⟩ = some (.int .i64 a0_0) := (bC BK260.out 0).trans rfl
       have hcz49_1 : w9.cell? ⟨gb260, 1, none⟩ = some (.int .i64 a0_1) := (bC BK260.out 1).trans rfl
       have hcz49_2 : w9.cell? ⟨gb260, 2, none⟩ = some (.int .i64 a0_2) := (bC BK260.out 2).trans rfl
       have hcz49_3 : w9.cell? ⟨gb260, 3, none⟩ = some (.int .i64 a0_3) := (bC BK260.out 3).trans rfl
       have hcz49_4 : w9.cell? ⟨gb260, 4, none⟩ = some (.bool a0_4) := (bC BK260.out 4).trans rfl
       have hfz49_0 := bB BK260.out 0
       have hfz49_1 := bB BK260.out 1
       have hfz49_2 := bB BK260.out 2
       have hfz49_3 := bB BK260.out 3
       have hfz49_4 := bB BK260.out 4
       go_wp2_with (first | ((with_reducible refine bV (f := 61) rfl ?_); refine goesL_ (some 13) rfl rfl Try.func61 (by kernel_rfl) rfl #[.int .i64 a0_0] rfl (by (try simp only [List.map_toArray, List.map_cons, List.map_nil]); first | done | rfl | (simp only [List.length_drop, List.length_take]; rfl)) ?_; (with_reducible refine (easementref18_Dst.calls a0_0 false _ A10.out).mono ?_); rintro e w' ⟨rfl, ⟨nd, rfl⟩⟩; refine ⟨_, rfl, ?_⟩) | (go_at_call 62; (with_reducible refine (easementref18_Src.calls a0_0 false _ A34.out).mono ?_); rintro e w' ⟨rfl, ⟨nd, rfl⟩⟩) | (go_at_call 63; (with_reducible refine (easementref18_Region.calls a0_0 true _ A46.out).mono ?_); rintro e w' ⟨rfl, ⟨nd, rfl⟩⟩))
       go_meet
       case rel => exact ⟨_, (true), (by first | rfl | (simp; done) | (simp [*]; done)), H', ⟨by first | omega | exact Nat.le_refl _⟩, ⟨by (with_reducible repeat (first | refine bG ?_ _ | refine bH ?_ | refine bF ?_ _)); exact BK260.out⟩, ⟨by repeat (first | (with_reducible first | exact HB.out | apply bE | apply bA | apply bD | refine bJ ?_ GE260.out) | exact HB.out)⟩⟩
      ·rw [if_neg c48] at H
       have c48b0 : decide (a0_3 < 0) = false := decide_eq_false c48
       clear c48
       have H' := Aside0.mk H
       clear H
       have hcz50_0 : w9.cell? ⟨gb260, 0, none⟩ = some (.int .i64 a0_0) := (bC BK260.out 0).trans rfl
       have hcz50_1 : w9.cell? ⟨gb260, 1, none⟩ = some (.int .i64 a0_1) := (bC BK260.out 1).trans rfl
       have hcz50_2 : w9.cell? ⟨gb260, 2, none⟩ = some (.int .i64 a0_2) := (bC BK260.out 2).trans rfl
       have hcz50_3 : w9.cell? ⟨gb260, 3, none⟩ = some (.int .i64 a0_3) := (bC BK260.out 3).trans rfl
       have hcz50_4 : w9.cell? ⟨gb260, 4, none⟩ = some (.bool a0_4) := (bC BK260.out 4).trans rfl
       have hfz50_0 := bB BK260.out 0
       have hfz50_1 := bB BK260.out 1
       have hfz50_2 := bB BK260.out 2
       have hfz50_3 := bB BK260.out 3
       have hfz50_4 := bB BK260.out 4
       go_wp2_with (first | ((with_reducible refine bV (f := 61) rfl ?_); refine goesL_ (some 13) rfl rfl Try.func61 (by kernel_rfl) rfl #[.int .i64 a0_0] rfl (by (try simp only [List.map_toArray, List.map_cons, List.map_nil]); first | done | rfl | (simp only [List.length_drop, List.length_take]; rfl)) ?_; (with_reducible refine (easementref18_Dst.calls a0_0 false _ A10.out).mono ?_); rintro e w' ⟨rfl, ⟨nd, rfl⟩⟩; refine ⟨_, rfl, ?_⟩) | (go_at_call 62; (with_reducible refine (easementref18_Src.calls a0_0 false _ A34.out).mono ?_); rintro e w' ⟨rfl, ⟨nd, rfl⟩⟩) | (go_at_call 63; (with_reducible refine (easementref18_Region.calls a0_0 true _ A46.out).mono ?_); rintro e w' ⟨rfl, ⟨nd, rfl⟩⟩))
       go_meet
       case rel => exact ⟨_, (decide (a0_3 ≥ a2)), (by first | rfl | (simp; done) | (simp [*]; done)), H', ⟨by first | omega | exact Nat.le_refl _⟩, ⟨by (with_reducible repeat (first | refine bG ?_ _ | refine bH ?_ | refine bF ?_ _)); exact BK260.out⟩, ⟨by repeat (first | (with_reducible first | exact HB.out | apply bE | apply bA | apply bD | refine bJ ?_ GE260.out) | exact HB.out)⟩⟩
     ·replace c47 := Bool.eq_false_iff.mpr c47
      subst c47
      have H1 : (easementref18_Needs.j0 k l1 false a0_0 a0_1 a0_2 a0_3 a0_4) = some (r1, r2) := by rw [if_neg (show ¬ (false = true) by decide)] at H; exact H
      clear H
      have H := H1
      clear H1
      have H' := Aside0.mk H
      clear H
      have hcz51_0 : w9.cell? ⟨gb260, 0, none⟩ = some (.int .i64 a0_0) := (bC BK260.out 0).trans rfl
      have hcz51_1 : w9.cell? ⟨gb260, 1, none⟩ = some (.int .i64 a0_1) := (bC BK260.out 1).trans rfl
      have hcz51_2 : w9.cell? ⟨gb260, 2, none⟩ = some (.int .i64 a0_2) := (bC BK260.out 2).trans rfl
      have hcz51_3 : w9.cell? ⟨gb260, 3, none⟩ = some (.int .i64 a0_3) := (bC BK260.out 3).trans rfl
      have hcz51_4 : w9.cell? ⟨gb260, 4, none⟩ = some (.bool a0_4) := (bC BK260.out 4).trans rfl
      have hfz51_0 := bB BK260.out 0
      have hfz51_1 := bB BK260.out 1
      have hfz51_2 := bB BK260.out 2
      have hfz51_3 := bB BK260.out 3
      have hfz51_4 := bB BK260.out 4
      go_wp2_with (first | ((with_reducible refine bV (f := 61) rfl ?_); refine goesL_ (some 13) rfl rfl Try.func61 (by kernel_rfl) rfl #[.int .i64 a0_0] rfl (by (try simp only [List.map_toArray, List.map_cons, List.map_nil]); first | done | rfl | (simp only [List.length_drop, List.length_take]; rfl)) ?_; (with_reducible refine (easementref18_Dst.calls a0_0 false _ A10.out).mono ?_); rintro e w' ⟨rfl, ⟨nd, rfl⟩⟩; refine ⟨_, rfl, ?_⟩) | (go_at_call 62; (with_reducible refine (easementref18_Src.calls a0_0 false _ A34.out).mono ?_); rintro e w' ⟨rfl, ⟨nd, rfl⟩⟩) | (go_at_call 63; (with_reducible refine (easementref18_Region.calls a0_0 false _ A46.out).mono ?_); rintro e w' ⟨rfl, ⟨nd, rfl⟩⟩))
      go_meet
      case rel => exact ⟨_, (false), (by first | rfl | (simp; done) | (simp [*]; done)), H', ⟨by first | omega | exact Nat.le_refl _⟩, ⟨by (with_reducible repeat (first | refine bG ?_ _ | refine bH ?_ | refine bF ?_ _)); exact BK260.out⟩, ⟨by repeat (first | (with_reducible first | exact HB.out | apply bE | apply bA | apply bD | refine bJ ?_ GE260.out) | exact HB.out)⟩⟩
  case rest =>
   clear HC6
   try clear c1
   try clear c2
   try clear p2
   try clear c3
   try clear c4
   try clear c5
   try clear c6
   try clear c11
   try clear c12
   try clear c12b0
   try clear c14
   try clear c14b0
   try clear c17
   try clear c18
   try clear c18b0
   try clear c20
   try clear c20b0
   try clear c23
   try clear c24
   try clear c24b0
   try clear c29
   try clear c30
   try clear c30b0
   try clear c35
   try clear c36
   try clear c36b0
   try clear c37
   try clear c38
   try clear c38b0
   try clear c41
   try clear c42
   try clear c42b0
   try clear c47
   try clear c48
   try clear c48b0
   try clear hcz13_0
   try clear hcz13_1
   try clear hcz13_2
   try clear hcz13_3
   try clear hcz13_4
   try clear hcz15_0
   try clear hcz15_1
   try clear hcz15_2
   try clear hcz15_3
   try clear hcz15_4
   try clear hcz19_0
   try clear hcz19_1
   try clear hcz19_2
   try clear hcz19_3
   try clear hcz19_4
   try clear hcz21_0
   try clear hcz21_1
   try clear hcz21_2
   try clear hcz21_3
   try clear hcz21_4
   try clear hcz25_0
   try clear hcz25_1
   try clear hcz25_2
   try clear hcz25_3
   try clear hcz25_4
   try clear hcz26_0
   try clear hcz26_1
   try clear hcz26_2
   try clear hcz26_3
   try clear hcz26_4
   try clear hcz27_0
   try clear hcz27_1
   try clear hcz27_2
   try clear hcz27_3
   try clear hcz27_4
   try clear hcz31_0
   try clear hcz31_1
   try clear hcz31_2
   try clear hcz31_3
   try clear hcz31_4
   try clear hcz32_0
   try clear hcz32_1
   try clear hcz32_2
   try clear hcz32_3
   try clear hcz32_4
   try clear hcz33_0
   try clear hcz33_1
   try clear hcz33_2
   try clear hcz33_3
   try clear hcz33_4
   try clear hcz37_0
   try clear hcz37_1
   try clear hcz37_2
   try clear hcz37_3
   try clear hcz37_4
   try clear hcz39_0
   try clear hcz39_1
   try clear hcz39_2
   try clear hcz39_3
   try clear hcz39_4
   try clear hcz43_0
   try clear hcz43_1
   try clear hcz43_2
   try clear hcz43_3
   try clear hcz43_4
   try clear hcz44_0
   try clear hcz44_1
   try clear hcz44_2
   try clear hcz44_3
   try clear hcz44_4
   try clear hcz45_0
   try clear hcz45_1
   try clear hcz45_2
   try clear hcz45_3
   try clear hcz45_4
   try clear hcz49_0
   try clear hcz49_1
   try clear hcz49_2
   try clear hcz49_3
   try clear hcz49_4
   try clear hcz50_0
   try clear hcz50_1
   try clear hcz50_2
   try clear hcz50_3
   try clear hcz50_4
   try clear hcz51_0
   try clear hcz51_1
   try clear hcz51_2
   try clear hcz51_3
   try clear hcz51_4
   try clear hcz8_0
   try clear hcz8_1
   try clear hcz8_2
   try clear hcz8_3
   try clear hcz8_4
   try clear hfz13_0
   try clear hfz13_1
   try clear hfz13_2
   try clear hfz13_3
   try clear hfz13_4
   try clear hfz15_0
   try clear hfz15_1
   try clear hfz15_2
   try clear hfz15_3
   try clear hfz15_4
   try clear hfz19_0
   try clear hfz19_1
   try clear hfz19_2
   try clear hfz19_3
   try clear hfz19_4
   try clear hfz21_0
   try clear hfz21_1
   try clear hfz21_2
   try clear hfz21_3
   try clear hfz21_4
   try clear hfz25_0
   try clear hfz25_1
   try clear hfz25_2
   try clear hfz25_3
   try clear hfz25_4
   try clear hfz26_0
   try clear hfz26_1
   try clear hfz26_2
   try clear hfz26_3
   try clear hfz26_4
   try clear hfz27_0
   try clear hfz27_1
   try clear hfz27_2
   try clear hfz27_3
   try clear hfz27_4
   try clear hfz31_0
   try clear hfz31_1
   try clear hfz31_2
   try clear hfz31_3
   try clear hfz31_4
   try clear hfz32_0
   try clear hfz32_1
   try clear hfz32_2
   try clear hfz32_3
   try clear hfz32_4
   try clear hfz33_0
   try clear hfz33_1
   try clear hfz33_2
   try clear hfz33_3
   try clear hfz33_4
   try clear hfz37_0
   try clear hfz37_1
   try clear hfz37_2
   try clear hfz37_3
   try clear hfz37_4
   try clear hfz39_0
   try clear hfz39_1
   try clear hfz39_2
   try clear hfz39_3
   try clear hfz39_4
   try clear hfz43_0
   try clear hfz43_1
   try clear hfz43_2
   try clear hfz43_3
   try clear hfz43_4
   try clear hfz44_0
   try clear hfz44_1
   try clear hfz44_2
   try clear hfz44_3
   try clear hfz44_4
   try clear hfz45_0
   try clear hfz45_1
   try clear hfz45_2
   try clear hfz45_3
   try clear hfz45_4
   try clear hfz49_0
   try clear hfz49_1
   try clear hfz49_2
   try clear hfz49_3
   try clear hfz49_4
   try clear hfz50_0
   try clear hfz50_1
   try clear hfz50_2
   try clear hfz50_3
   try clear hfz50_4
   try clear hfz51_0
   try clear hfz51_1
   try clear hfz51_2
   try clear hfz51_3
   try clear hfz51_4
   try clear hfz8_0
   try clear hfz8_1
   try clear hfz8_2
   try clear hfz8_3
   try clear hfz8_4
   obtain ⟨kq, x58_5, rfl, HA, HJ5, BK260, HB⟩ := hcut
   cases kq with
   | zero => exact absurd HA.out (by simp [easementref18_Needs.j0])
   | succ kj5 =>
    have H := HA.out
    clear HA
    simp only [easementref18_Needs.j0] at H
    by_cases c52 : x58_5 = true
    ·subst c52
     have H1 : (some (([] : List (S128)), 7)) = some (r1, r2) := by rw [if_pos rfl] at H; exact H
     clear H
     have H := H1
     clear H1
     simp only [Option.some.injEq, Prod.mk.injEq] at H
     obtain ⟨rfl, rfl⟩ := H
     go_wp2
     go_ret2
     exact ⟨_, by first | rfl | (simp [errW_none, errW_some] <;> rfl) | (simp [*, errW_none, errW_some] <;> rfl), by first | exact Kd.R_nil _ _ _ _ _ | exact Kd.N_nil _ _ _ _ _ | exact Kd.V_nil _ _ _ _ _ | exact Kd.Q_nil _ _ _ _ _ | exact Kd.S_nil _ _ _ _ _, by repeat (first | (with_reducible first | exact HB.out | apply bE | apply bA | apply bD | refine bJ ?_ GE260.out) | exact HB.out)⟩
    ·replace c52 := Bool.eq_false_iff.mpr c52
     subst c52
     have H1 : (if a0_0 = 1 then (if 0 ≤ a0_2 then (if a0_2 < (l1.length : Int) then (if 0 ≤ a0_1 then (if a0_1 < (l1.length : Int) then ((easementref16_Flow.f kj5 ((rd_T44 l1 a0_2).f0) ((rd_T44 l1 a0_1).f0) 1 0).bind fun bt271 => (some (bt271.1, bt271.2))) else (none)) else (none)) else (none)) else (none)) else (if a0_0 = 2 then (if 0 ≤ a0_2 then (if a0_2 < (l1.length : Int) then (if 0 ≤ a0_1 then (if a0_1 < (l1.length : Int) then ((easementref16_Loan.f kj5 ((rd_T44 l1 a0_2).f0) ((rd_T44 l1 a0_1).f0) a0_3 a0_4).bind fun bt277 => (some (bt277.1, bt277.2))) else (none)) else (none)) else (none)) else (none)) else (if a0_0 = 3 then (if 0 ≤ a0_2 then (if a0_2 < (l1.length : Int) then (if 0 ≤ a0_1 then (if a0_1 < (l1.length : Int) then ((easementref16_Again.f kj5 ((rd_T44 l1 a0_2).f0) ((rd_T44 l1 a0_1).f0) a0_3 a0_4).bind fun bt283 => (some (bt283.1, bt283.2))) else (none)) else (none)) else (none)) else (none)) else (some (([] : List (S128)), 0))))) = some (r1, r2) := by rw [if_neg (show ¬ (false = true) by decide)] at H; exact H
     clear H
     have H := H1
     clear H1
     by_cases c53 : a0_0 = 1
     ·rw [if_pos c53] at H
      have c53b0 : (a0_0 == 1) = true := beq_iff_eq.mpr c53
      have c53b1 : (a0_0 != 1) = false := bne_eq_false_iff_eq.mpr c53
      clear c53
      by_cases c54 : 0 ≤ a0_2
      ·rw [if_pos c54] at H
       have c54b0 : decide (0 ≤ a0_2) = true := decide_eq_true c54
       clear c54
       by_cases c55 : a0_2 < (l1.length : Int)
       ·rw [if_pos c55] at H
        have c55b0 : decide (a0_2 < (l1.length : Int)) = true := decide_eq_true c55
        clear c55
        by_cases c56 : 0 ≤ a0_1
        ·rw [if_pos c56] at H
         have c56b0 : decide (0 ≤ a0_1) = true := decide_eq_true c56
         clear c56
         by_cases c57 : a0_1 < (l1.length : Int)
         ·rw [if_pos c57] at H
          have c57b0 : decide (a0_1 < (l1.length : Int)) = true := decide_eq_true c57
          clear c57
          replace H := Option.bind_eq_some_iff.mp H
          obtain ⟨⟨t271, t274⟩, A580, H⟩ := H
          replace H : (some (t271, t274)) = some (r1, r2) := H
          have A58 := Aside0.mk A580
          clear A580
          simp only [Option.some.injEq, Prod.mk.injEq] at H
          obtain ⟨rfl, rfl⟩ := H
          have hcz59_0 : wc.cell? ⟨gb260, 0, none⟩ = some (.int .i64 a0_0) := (bC BK260.out 0).trans rfl
          have hcz59_1 : wc.cell? ⟨gb260, 1, none⟩ = some (.int .i64 a0_1) := (bC BK260.out 1).trans rfl
          have hcz59_2 : wc.cell? ⟨gb260, 2, none⟩ = some (.int .i64 a0_2) := (bC BK260.out 2).trans rfl
          have hcz59_3 : wc.cell? ⟨gb260, 3, none⟩ = some (.int .i64 a0_3) := (bC BK260.out 3).trans rfl
          have hcz59_4 : wc.cell? ⟨gb260, 4, none⟩ = some (.bool a0_4) := (bC BK260.out 4).trans rfl
          have hfz59_0 := bB BK260.out 0
          have hfz59_1 := bB BK260.out 1
          have hfz59_2 := bB BK260.out 2
          have hfz59_3 := bB BK260.out 3
          have hfz59_4 := bB BK260.out 4
          try go_wp2
          have n0_ := Aside0.mk (bH BK260.out)
          have n1_ := Aside0.mk (bD HB.out)
          clear BK260
          clear HB
          have BK260 := n0_
          have HB := n1_
          clear n0_ n1_
          have p269 : 0 ≤ (a0_2 : Int) := of_decide_eq_true (by first | (with_reducible assumption) | assumption)
          have q269 : a0_2 < (l1.length : Int) := of_decide_eq_true (by first | (with_reducible assumption) | assumption)
          obtain ⟨ad269, A269_0, c269_0, e269, hx269_0, hl269_0, hi269_0⟩ := at_T44 HR1.out a0_2 p269 q269
          have hw269_0 := hx269_0
          cases e269
          replace hx269_0 := (HB.out.cell (World.block_lt_of_cell? w _ hx269_0)).trans hx269_0
          have HR269_0 := Aside0.mk hi269_0
          have HC269_0 := Aside0.mk hl269_0
          clear hi269_0 hl269_0
          replace p269 := eq_true p269
          replace q269 := eq_true q269
          have p270 : 0 ≤ (a0_1 : Int) := of_decide_eq_true (by first | (with_reducible assumption) | assumption)
          have q270 : a0_1 < (l1.length : Int) := of_decide_eq_true (by first | (with_reducible assumption) | assumption)
          obtain ⟨ad270, A270_0, c270_0, e270, hx270_0, hl270_0, hi270_0⟩ := at_T44 HR1.out a0_1 p270 q270
          have hw270_0 := hx270_0
          obtain rfl : ad269 = ad270 := (by injection e270)
          replace hx270_0 := (HB.out.cell (World.block_lt_of_cell? w _ hx270_0)).trans hx270_0
          have HR270_0 := Aside0.mk hi270_0
          have HC270_0 := Aside0.mk hl270_0
          clear hi270_0 hl270_0
          replace p270 := eq_true p270
          replace q270 := eq_true q270
          refine start_ (n := 15) (S := fun w' => w'.cell? ⟨gb260, 0, none⟩ = some (.int .i64 a0_0) ∧ w'.cell? ⟨gb260, 1, none⟩ = some (.int .i64 a0_1) ∧ w'.cell? ⟨gb260, 2, none⟩ = some (.int .i64 a0_2) ∧ w'.cell? ⟨gb260, 3, none⟩ = some (.int .i64 a0_3) ∧ w'.cell? ⟨gb260, 4, none⟩ = some (.bool a0_4) ∧ w'.cell? (ad269.add (a0_2).toNat) = some (.slice A269_0 ((rd_T44 l1 a0_2).f0).length c269_0) ∧ w'.cell? (ad269.add (a0_1).toNat) = some (.slice A270_0 ((rd_T44 l1 a0_1).f0).length c270_0)) (ds := []) #[false, false, false, false, false, false, false, false, false, false, false, false, false, false, false] (by kernel_rfl) rfl rfl ⟨(bC BK260.out 0).trans rfl, (bC BK260.out 1).trans rfl, (bC BK260.out 2).trans rfl, (bC BK260.out 3).trans rfl, (bC BK260.out 4).trans rfl, ((HB.out.cell (World.block_lt_of_cell? w _ hw269_0)).trans hw269_0), ((HB.out.cell (World.block_lt_of_cell? w _ hw270_0)).trans hw270_0)⟩ (fun hHeld => ?_); refine with_tabW easementref18_Needs.tab6 easementref18_Needs.bits6 (fun HT_ HW_ => ?_)
          generalize wc.drew = w60 at BK260 HB HR269_0 HR270_0 hx269_0 hx270_0 hHeld ⊢
          refine bR (i := 0) (N := some 62) (v := ?_) (a' := ?_) #[true, false, false, false, false, false, false, false, false, false, false, false, false, false, false] rfl rfl (bQ HT_.out (by kernel_rfl)) (fun _ _ _ h => h) (Or.inl ⟨by rfl, ?_⟩) ?_ ?_
          rotate_left
          ·intro w'
           go_simp
           with_reducible rfl
          rotate_left
          ·simp only [Act.put, sZ1, sZ2, sZ3, bL, bM]
           rfl
          refine bR (i := 1) (N := some 63) (v := ?_) (a' := ?_) #[true, true, false, false, false, false, false, false, false, false, false, false, false, false, false] rfl rfl (bQ HT_.out (by kernel_rfl)) (fun _ _ _ h => h) (Or.inl ⟨by rfl, ?_⟩) ?_ ?_
          rotate_left
          ·intro w'
           go_simp
           with_reducible rfl
          rotate_left
          ·simp only [Act.put, sZ1, sZ2, sZ3, bL, bM]
           rfl
          refine bR (i := 5) (N := some 67) (v := ?_) (a' := ?_) #[true, true, false, false, false, true, false, false, false, false, false, false, false, false, false] rfl rfl (bQ HT_.out (by kernel_rfl)) (fun _ _ _ h => h) (Or.inl ⟨by rfl, ?_⟩) ?_ ?_
          rotate_left
          ·intro w'
           go_simp
           with_reducible rfl
          rotate_left
          ·simp only [Act.put, sZ1, sZ2, sZ3, bL, bM]
           rfl
          refine bR (i := 6) (N := some 68) (v := ?_) (a' := ?_) #[true, true, false, false, false, true, true, false, false, false, false, false, false, false, false] rfl rfl (bQ HT_.out (by kernel_rfl)) (fun _ _ _ h => h) (Or.inl ⟨by rfl, ?_⟩) ?_ ?_
          rotate_left
          ·intro w'
           go_simp
           with_reducible rfl
          rotate_left
          ·simp only [Act.put, sZ1, sZ2, sZ3, bL, bM]
           rfl
          refine take_ (i := 2) (N := some 64) (v := ?_) (a' := ?_) #[true, true, true, false, false, true, true, false, false, false, false, false, false, false, false] rfl rfl (bX HT_.out HW_.out (by kernel_rfl)) (fun _ _ _ h => h) (Or.inl ⟨by rfl, ?_⟩) hHeld ?_ ?_
          rotate_left
          ·rintro w' ⟨s0, s1, s2, s3, s4, s5, s6⟩
           go_simp
           with_reducible rfl
          rotate_left
          ·simp only [Act.put, sZ1, sZ2, sZ3, bL, bM]
           rfl
          refine bR (i := 3) (N := some 65) (v := ?_) (a' := ?_) #[true, true, true, true, false, true, true, false, false, false, false, false, false, false, false] rfl rfl (bQ HT_.out (by kernel_rfl)) (fun _ _ _ h => h) (Or.inl ⟨by rfl, ?_⟩) ?_ ?_
          rotate_left
          ·intro w'
           go_simp
           with_reducible rfl
          rotate_left
          ·simp only [Act.put, sZ1, sZ2, sZ3, bL, bM]
           rfl
          refine take_ (i := 4) (N := some 66) (v := ?_) (a' := ?_) #[true, true, true, true, true, true, true, false, false, false, false, false, false, false, false] rfl rfl (bX HT_.out HW_.out (by kernel_rfl)) (fun _ _ _ h => h) (Or.inl ⟨by rfl, ?_⟩) hHeld ?_ ?_
          rotate_left
          ·rintro w' ⟨s0, s1, s2, s3, s4, s5, s6⟩
           go_simp
           with_reducible rfl
          rotate_left
          ·simp only [Act.put, sZ1, sZ2, sZ3, bL, bM]
           rfl
          refine take_ (i := 7) (N := some 69) (v := ?_) (a' := ?_) #[true, true, true, true, true, true, true, true, false, false, false, false, false, false, false] rfl rfl (bX HT_.out HW_.out (by kernel_rfl)) (fun _ _ _ h => h) (Or.inl ⟨by rfl, ?_⟩) hHeld ?_ ?_
          rotate_left
          ·rintro w' ⟨s0, s1, s2, s3, s4, s5, s6⟩
           go_simp
           with_reducible rfl
          rotate_left
          ·simp only [Act.put, sZ1, sZ2, sZ3, bL, bM]
           rfl
          refine bR (i := 8) (N := some 70) (v := ?_) (a' := ?_) #[true, true, true, true, true, true, true, true, true, false, false, false, false, false, false] rfl rfl (bQ HT_.out (by kernel_rfl)) (fun _ _ _ h => h) (Or.inl ⟨by rfl, ?_⟩) ?_ ?_
          rotate_left
          ·intro w'
           go_simp
           with_reducible rfl
          rotate_left
          ·simp only [Act.put, sZ1, sZ2, sZ3, bL, bM]
           rfl
          refine take_ (i := 9) (N := some 71) (v := ?_) (a' := ?_) #[true, true, true, true, true, true, true, true, true, true, false, false, false, false, false] rfl rfl (bX HT_.out HW_.out (by kernel_rfl)) (fun _ _ _ h => h) (Or.inl ⟨by rfl, ?_⟩) hHeld ?_ ?_
          rotate_left
          ·rintro w' ⟨s0, s1, s2, s3, s4, s5, s6⟩
           go_simp
           with_reducible rfl
          rotate_left
          ·simp only [Act.put, sZ1, sZ2, sZ3, bL, bM]
           rfl
          refine one_ (i := 10) (N := some 72) #[true, true, true, true, true, true, true, true, true, true, true, false, false, false, false] rfl rfl (one_of HT_.out (by kernel_rfl)) (by decide) (fun K hK => ?_)
          refine goes_ Try.func88 (by kernel_rfl) rfl #[.agg #[.slice A269_0 ((rd_T44 l1 a0_2).f0).length c269_0], .agg #[.slice A270_0 ((rd_T44 l1 a0_1).f0).length c270_0], .int .i64 1, .int .i64 0] (by rfl) rfl rfl (by (try simp only [List.map_toArray, List.map_cons, List.map_nil]); first | done | rfl | (simp only [List.length_drop, List.length_take]; rfl)) ?_
          with_reducible refine (easementref16_Flow.calls kj5 _ _ ((rd_T44 l1 a0_2).f0) _ _ ((rd_T44 l1 a0_1).f0) 1 0 t271 t274 _ ?side1 ?side2 ?side3 ?side4 A58.out).mono ?_
          (case side1 => repeat (first | exact (Kd.bZ HR269_0.out HB.out) | (with_reducible refine Kd.C_alloc ?_ _) | (with_reducible refine Kd.C_drewN ?_ _) | (with_reducible refine Kd.C_drew ?_)))
          (case side2 => exact HC269_0.out)
          (case side3 => repeat (first | exact (Kd.bZ HR270_0.out HB.out) | (with_reducible refine Kd.C_alloc ?_ _) | (with_reducible refine Kd.C_drewN ?_ _) | (with_reducible refine Kd.C_drew ?_)))
          (case side4 => exact HC270_0.out)
          rintro e w61 ⟨v272, rfl, ho0, hb⟩
          refine ⟨_, rfl, ?_⟩
          have n0_ := Aside0.mk (Kd.R_lower ho0 (bK (by repeat (first | (with_reducible first | exact HB.out | apply bE | apply bA | apply bD | refine bJ ?_ GE260.out) | exact HB.out))))
          have n1_ := Aside0.mk (bU (g := gb260) (o := .cells #[.int .i64 a0_0, .int .i64 a0_1, .int .i64 a0_2, .int .i64 a0_3, .bool a0_4] 23 (0, 0)) (by (with_reducible repeat (first | refine bG ?_ _ | refine bH ?_ | refine bF ?_ _)); exact BK260.out) hb)
          have n2_ := Aside0.mk (bP (by repeat (first | (with_reducible first | exact HB.out | apply bE | apply bA | apply bD | refine bJ ?_ GE260.out) | exact HB.out)) hb)
          clear BK260
          clear HB
          have HO273 := n0_
          have BK260 := n1_
          have HB := n2_
          clear n0_ n1_ n2_
          (try clear hb)
          (try clear hb2)
          (try clear hk)
          (try clear hi)
          (try clear ho0)
          refine hK.out _ _ ⟨(bC BK260.out 0).trans rfl, (bC BK260.out 1).trans rfl, (bC BK260.out 2).trans rfl, (bC BK260.out 3).trans rfl, (bC BK260.out 4).trans rfl, ((HB.out.cell (World.block_lt_of_cell? w _ hw269_0)).trans hw269_0), ((HB.out.cell (World.block_lt_of_cell? w _ hw270_0)).trans hw270_0)⟩ (fun hHeld => ?_)
          clear hK K
          refine norm_ (a' := ?_) ?_ ?_
          rotate_left
          ·show Act.put _ (some 72) _ = _
           simp only [Act.put, sZ1, sZ2, sZ3, bL, bM]
           rfl
          refine bR (i := 11) (N := some 73) (v := ?_) (a' := ?_) #[true, true, true, true, true, true, true, true, true, true, true, true, false, false, false] rfl rfl (bQ HT_.out (by kernel_rfl)) (fun _ _ _ h => h) (Or.inl ⟨by rfl, ?_⟩) ?_ ?_
          rotate_left
          ·intro w'
           go_simp
           with_reducible rfl
          rotate_left
          ·simp only [Act.put, sZ1, sZ2, sZ3, bL, bM]
           rfl
          refine bR (i := 12) (N := some 74) (v := ?_) (a' := ?_) #[true, true, true, true, true, true, true, true, true, true, true, true, true, false, false] rfl rfl (bQ HT_.out (by kernel_rfl)) (fun _ _ _ h => h) (Or.inl ⟨by rfl, ?_⟩) ?_ ?_
          rotate_left
          ·intro w'
           go_simp
           with_reducible rfl
          rotate_left
          ·simp only [Act.put, sZ1, sZ2, sZ3, bL, bM]
           rfl
          refine bR (i := 13) (N := some 6) (v := ?_) (a' := ?_) #[true, true, true, true, true, true, true, true, true, true, true, true, true, true, false] rfl rfl (bQ HT_.out (by kernel_rfl)) (fun _ _ _ h => h) (Or.inl ⟨by rfl, ?_⟩) ?_ ?_
          rotate_left
          ·intro w'
           go_simp
           with_reducible rfl
          rotate_left
          ·simp only [Act.put, sZ1, sZ2, sZ3, bL, bM]
           rfl
          refine bR (i := 14) (N := some 7) (v := ?_) (a' := ?_) #[true, true, true, true, true, true, true, true, true, true, true, true, true, true, true] rfl rfl (bQ HT_.out (by kernel_rfl)) (fun _ _ _ h => h) (Or.inl ⟨by rfl, ?_⟩) ?_ ?_
          rotate_left
          ·intro w'
           go_simp
           with_reducible rfl
          rotate_left
          ·simp only [Act.put, sZ1, sZ2, sZ3, bL, bM]
           rfl
          refine done_ (done_of HT_.out (by kernel_rfl)) ?_
          try go_wp2
          go_ret2
          exact ⟨_, by first | rfl | (simp [errW_none, errW_some] <;> rfl) | (simp [*, errW_none, errW_some] <;> rfl), by (with_reducible repeat (first | apply Kd.R_alloc | apply Kd.R_drewN | apply Kd.R_drew)); exact HO273.out, by repeat (first | (with_reducible first | exact HB.out | apply bE | apply bA | apply bD | refine bJ ?_ GE260.out) | exact HB.out)⟩
         ·rw [if_neg c57] at H
          exact absurd H (by simp)
        ·rw [if_neg c56] at H
         exact absurd H (by simp)
       ·rw [if_neg c55] at H
        exact absurd H (by simp)
      ·rw [if_neg c54] at H
       exact absurd H (by simp)
     ·rw [if_neg c53] at H
      have c53b0 : (a0_0 == 1) = false := beq_eq_false_iff_ne.mpr c53
      have c53b1 : (a0_0 != 1) = true := bne_iff_ne.mpr c53
      by_cases c62 : a0_0 = 2
      ·rw [if_pos c62] at H
       have c62b0 : (a0_0 == 2) = true := beq_iff_eq.mpr c62
       have c62b1 : (a0_0 != 2) = false := bne_eq_false_iff_eq.mpr c62
       clear c62
       by_cases c63 : 0 ≤ a0_2
       ·rw [if_pos c63] at H
        have c63b0 : decide (0 ≤ a0_2) = true := decide_eq_true c63
        clear c63
        by_cases c64 : a0_2 < (l1.length : Int)
        ·rw [if_pos c64] at H
         have c64b0 : decide (a0_2 < (l1.length : Int)) = true := decide_eq_true c64
         clear c64
         by_cases c65 : 0 ≤ a0_1
         ·rw [if_pos c65] at H
          have c65b0 : decide (0 ≤ a0_1) = true := decide_eq_true c65
          clear c65
          by_cases c66 : a0_1 < (l1.length : Int)
          ·rw [if_pos c66] at H
           have c66b0 : decide (a0_1 < (l1.length : Int)) = true := decide_eq_true c66
           clear c66
           replace H := Option.bind_eq_some_iff.mp H
           obtain ⟨⟨t277, t280⟩, A670, H⟩ := H
           replace H : (some (t277, t280)) = some (r1, r2) := H
           have A67 := Aside0.mk A670
           clear A670
           simp only [Option.some.injEq, Prod.mk.injEq] at H
           obtain ⟨rfl, rfl⟩ := H
           have hcz68_0 : wc.cell? ⟨gb260, 0, none⟩ = some (.int .i64 a0_0) := (bC BK260.out 0).trans rfl
           have hcz68_1 : wc.cell? ⟨gb260, 1, none⟩ = some (.int .i64 a0_1) := (bC BK260.out 1).trans rfl
           have hcz68_2 : wc.cell? ⟨gb260, 2, none⟩ = some (.int .i64 a0_2) := (bC BK260.out 2).trans rfl
           have hcz68_3 : wc.cell? ⟨gb260, 3, none⟩ = some (.int .i64 a0_3) := (bC BK260.out 3).trans rfl
           have hcz68_4 : wc.cell? ⟨gb260, 4, none⟩ = some (.bool a0_4) := (bC BK260.out 4).trans rfl
           have hfz68_0 := bB BK260.out 0
           have hfz68_1 := bB BK260.out 1
           have hfz68_2 := bB BK260.out 2
           have hfz68_3 := bB BK260.out 3
           have hfz68_4 := bB BK260.out 4
           try go_wp2
           have n0_ := Aside0.mk (bH BK260.out)
           have n1_ := Aside0.mk (bD HB.out)
           clear BK260
           clear HB
           have BK260 := n0_
           have HB := n1_
           clear n0_ n1_
           have p275 : 0 ≤ (a0_2 : Int) := of_decide_eq_true (by first | (with_reducible assumption) | assumption)
           have q275 : a0_2 < (l1.length : Int) := of_decide_eq_true (by first | (with_reducible assumption) | assumption)
           obtain ⟨ad275, A275_0, c275_0, e275, hx275_0, hl275_0, hi275_0⟩ := at_T44 HR1.out a0_2 p275 q275
           have hw275_0 := hx275_0
           cases e275
           replace hx275_0 := (HB.out.cell (World.block_lt_of_cell? w _ hx275_0)).trans hx275_0
           have HR275_0 := Aside0.mk hi275_0
           have HC275_0 := Aside0.mk hl275_0
           clear hi275_0 hl275_0
           replace p275 := eq_true p275
           replace q275 := eq_true q275
           have p276 : 0 ≤ (a0_1 : Int) := of_decide_eq_true (by first | (with_reducible assumption) | assumption)
           have q276 : a0_1 < (l1.length : Int) := of_decide_eq_true (by first | (with_reducible assumption) | assumption)
           obtain ⟨ad276, A276_0, c276_0, e276, hx276_0, hl276_0, hi276_0⟩ := at_T44 HR1.out a0_1 p276 q276
           have hw276_0 := hx276_0
           obtain rfl : ad275 = ad276 := (by injection e276)
           replace hx276_0 := (HB.out.cell (World.block_lt_of_cell? w _ hx276_0)).trans hx276_0
           have HR276_0 := Aside0.mk hi276_0
           have HC276_0 := Aside0.mk hl276_0
           clear hi276_0 hl276_0
           replace p276 := eq_true p276
           replace q276 := eq_true q276
           refine start_ (n := 19) (S := fun w' => w'.cell? ⟨gb260, 0, none⟩ = some (.int .i64 a0_0) ∧ w'.cell? ⟨gb260, 1, none⟩ = some (.int .i64 a0_1) ∧ w'.cell? ⟨gb260, 2, none⟩ = some (.int .i64 a0_2) ∧ w'.cell? ⟨gb260, 3, none⟩ = some (.int .i64 a0_3) ∧ w'.cell? ⟨gb260, 4, none⟩ = some (.bool a0_4) ∧ w'.cell? (ad275.add (a0_2).toNat) = some (.slice A275_0 ((rd_T44 l1 a0_2).f0).length c275_0) ∧ w'.cell? (ad275.add (a0_1).toNat) = some (.slice A276_0 ((rd_T44 l1 a0_1).f0).length c276_0)) (ds := []) #[false, false, false, false, false, false, false, false, false, false, false, false, false, false, false, false, false, false, false] (by kernel_rfl) rfl rfl ⟨(bC BK260.out 0).trans rfl, (bC BK260.out 1).trans rfl, (bC BK260.out 2).trans rfl, (bC BK260.out 3).trans rfl, (bC BK260.out 4).trans rfl, ((HB.out.cell (World.block_lt_of_cell? w _ hw275_0)).trans hw275_0), ((HB.out.cell (World.block_lt_of_cell? w _ hw276_0)).trans hw276_0)⟩ (fun hHeld => ?_); refine with_tabW easementref18_Needs.tab8 easementref18_Needs.bits8 (fun HT_ HW_ => ?_)
           generalize wc.drew = w69 at BK260 HB HR275_0 HR276_0 hx275_0 hx276_0 hHeld ⊢
           refine bR (i := 0) (N := some 78) (v := ?_) (a' := ?_) #[true, false, false, false, false, false, false, false, false, false, false, false, false, false, false, false, false, false, false] rfl rfl (bQ HT_.out (by kernel_rfl)) (fun _ _ _ h => h) (Or.inl ⟨by rfl, ?_⟩) ?_ ?_
           rotate_left
           ·intro w'
            go_simp
            with_reducible rfl
           rotate_left
           ·simp only [Act.put, sZ1, sZ2, sZ3, bL, bM]
            rfl
           refine bR (i := 1) (N := some 79) (v := ?_) (a' := ?_) #[true, true, false, false, false, false, false, false, false, false, false, false, false, false, false, false, false, false, false] rfl rfl (bQ HT_.out (by kernel_rfl)) (fun _ _ _ h => h) (Or.inl ⟨by rfl, ?_⟩) ?_ ?_
           rotate_left
           ·intro w'
            go_simp
            with_reducible rfl
           rotate_left
           ·simp only [Act.put, sZ1, sZ2, sZ3, bL, bM]
            rfl
           refine bR (i := 5) (N := some 83) (v := ?_) (a' := ?_) #[true, true, false, false, false, true, false, false, false, false, false, false, false, false, false, false, false, false, false] rfl rfl (bQ HT_.out (by kernel_rfl)) (fun _ _ _ h => h) (Or.inl ⟨by rfl, ?_⟩) ?_ ?_
           rotate_left
           ·intro w'
            go_simp
            with_reducible rfl
           rotate_left
           ·simp only [Act.put, sZ1, sZ2, sZ3, bL, bM]
            rfl
           refine bR (i := 6) (N := some 84) (v := ?_) (a' := ?_) #[true, true, false, false, false, true, true, false, false, false, false, false, false, false, false, false, false, false, false] rfl rfl (bQ HT_.out (by kernel_rfl)) (fun _ _ _ h => h) (Or.inl ⟨by rfl, ?_⟩) ?_ ?_
           rotate_left
           ·intro w'
            go_simp
            with_reducible rfl
           rotate_left
           ·simp only [Act.put, sZ1, sZ2, sZ3, bL, bM]
            rfl
           refine bR (i := 10) (N := some 88) (v := ?_) (a' := ?_) #[true, true, false, false, false, true, true, false, false, false, true, false, false, false, false, false, false, false, false] rfl rfl (bQ HT_.out (by kernel_rfl)) (fun _ _ _ h => h) (Or.inl ⟨by rfl, ?_⟩) ?_ ?_
           rotate_left
           ·intro w'
            go_simp
            with_reducible rfl
           rotate_left
           ·simp only [Act.put, sZ1, sZ2, sZ3, bL, bM]
            rfl
           refine bR (i := 12) (N := some 90) (v := ?_) (a' := ?_) #[true, true, false, false, false, true, true, false, false, false, true, false, true, false, false, false, false, false, false] rfl rfl (bQ HT_.out (by kernel_rfl)) (fun _ _ _ h => h) (Or.inl ⟨by rfl, ?_⟩) ?_ ?_
           rotate_left
           ·intro w'
            go_simp
            with_reducible rfl
           rotate_left
           ·simp only [Act.put, sZ1, sZ2, sZ3, bL, bM]
            rfl
           refine take_ (i := 2) (N := some 80) (v := ?_) (a' := ?_) #[true, true, true, false, false, true, true, false, false, false, true, false, true, false, false, false, false, false, false] rfl rfl (bX HT_.out HW_.out (by kernel_rfl)) (fun _ _ _ h => h) (Or.inl ⟨by rfl, ?_⟩) hHeld ?_ ?_
           rotate_left
           ·rintro w' ⟨s0, s1, s2, s3, s4, s5, s6⟩
            go_simp
            with_reducible rfl
           rotate_left
           ·simp only [Act.put, sZ1, sZ2, sZ3, bL, bM]
            rfl
           refine bR (i := 3) (N := some 81) (v := ?_) (a' := ?_) #[true, true, true, true, false, true, true, false, false, false, true, false, true, false, false, false, false, false, false] rfl rfl (bQ HT_.out (by kernel_rfl)) (fun _ _ _ h => h) (Or.inl ⟨by rfl, ?_⟩) ?_ ?_
           rotate_left
           ·intro w'
            go_simp
            with_reducible rfl
           rotate_left
           ·simp only [Act.put, sZ1, sZ2, sZ3, bL, bM]
            rfl
           refine take_ (i := 4) (N := some 82) (v := ?_) (a' := ?_) #[true, true, true, true, true, true, true, false, false, false, true, false, true, false, false, false, false, false, false] rfl rfl (bX HT_.out HW_.out (by kernel_rfl)) (fun _ _ _ h => h) (Or.inl ⟨by rfl, ?_⟩) hHeld ?_ ?_
           rotate_left
           ·rintro w' ⟨s0, s1, s2, s3, s4, s5, s6⟩
            go_simp
            with_reducible rfl
           rotate_left
           ·simp only [Act.put, sZ1, sZ2, sZ3, bL, bM]
            rfl
           refine take_ (i := 7) (N := some 85) (v := ?_) (a' := ?_) #[true, true, true, true, true, true, true, true, false, false, true, false, true, false, false, false, false, false, false] rfl rfl (bX HT_.out HW_.out (by kernel_rfl)) (fun _ _ _ h => h) (Or.inl ⟨by rfl, ?_⟩) hHeld ?_ ?_
           rotate_left
           ·rintro w' ⟨s0, s1, s2, s3, s4, s5, s6⟩
            go_simp
            with_reducible rfl
           rotate_left
           ·simp only [Act.put, sZ1, sZ2, sZ3, bL, bM]
            rfl
           refine bR (i := 8) (N := some 86) (v := ?_) (a' := ?_) #[true, true, true, true, true, true, true, true, true, false, true, false, true, false, false, false, false, false, false] rfl rfl (bQ HT_.out (by kernel_rfl)) (fun _ _ _ h => h) (Or.inl ⟨by rfl, ?_⟩) ?_ ?_
           rotate_left
           ·intro w'
            go_simp
            with_reducible rfl
           rotate_left
           ·simp only [Act.put, sZ1, sZ2, sZ3, bL, bM]
            rfl
           refine take_ (i := 9) (N := some 87) (v := ?_) (a' := ?_) #[true, true, true, true, true, true, true, true, true, true, true, false, true, false, false, false, false, false, false] rfl rfl (bX HT_.out HW_.out (by kernel_rfl)) (fun _ _ _ h => h) (Or.inl ⟨by rfl, ?_⟩) hHeld ?_ ?_
           rotate_left
           ·rintro w' ⟨s0, s1, s2, s3, s4, s5, s6⟩
            go_simp
            with_reducible rfl
           rotate_left
           ·simp only [Act.put, sZ1, sZ2, sZ3, bL, bM]
            rfl
           refine take_ (i := 11) (N := some 89) (v := ?_) (a' := ?_) #[true, true, true, true, true, true, true, true, true, true, true, true, true, false, false, false, false, false, false] rfl rfl (bX HT_.out HW_.out (by kernel_rfl)) (fun _ _ _ h => h) (Or.inl ⟨by rfl, ?_⟩) hHeld ?_ ?_
           rotate_left
           ·rintro w' ⟨s0, s1, s2, s3, s4, s5, s6⟩
            go_simp
            with_reducible rfl
           rotate_left
           ·simp only [Act.put, sZ1, sZ2, sZ3, bL, bM]
            rfl
           refine take_ (i := 13) (N := some 91) (v := ?_) (a' := ?_) #[true, true, true, true, true, true, true, true, true, true, true, true, true, true, false, false, false, false, false] rfl rfl (bX HT_.out HW_.out (by kernel_rfl)) (fun _ _ _ h => h) (Or.inl ⟨by rfl, ?_⟩) hHeld ?_ ?_
           rotate_left
           ·rintro w' ⟨s0, s1, s2, s3, s4, s5, s6⟩
            go_simp
            with_reducible rfl
           rotate_left
           ·simp only [Act.put, sZ1, sZ2, sZ3, bL, bM]
            rfl
           refine one_ (i := 14) (N := some 92) #[true, true, true, true, true, true, true, true, true, true, true, true, true, true, true, false, false, false, false] rfl rfl (one_of HT_.out (by kernel_rfl)) (by decide) (fun K hK => ?_)
           refine goes_ Try.func89 (by kernel_rfl) rfl #[.agg #[.slice A275_0 ((rd_T44 l1 a0_2).f0).length c275_0], .agg #[.slice A276_0 ((rd_T44 l1 a0_1).f0).length c276_0], .int .i64 a0_3, .bool a0_4] (by rfl) rfl rfl (by (try simp only [List.map_toArray, List.map_cons, List.map_nil]); first | done | rfl | (simp only [List.length_drop, List.length_take]; rfl)) ?_
           with_reducible refine (easementref16_Loan.calls kj5 _ _ ((rd_T44 l1 a0_2).f0) _ _ ((rd_T44 l1 a0_1).f0) a0_3 a0_4 t277 t280 _ ?side1 ?side2 ?side3 ?side4 A67.out).mono ?_
           (case side1 => repeat (first | exact (Kd.bZ HR275_0.out HB.out) | (with_reducible refine Kd.C_alloc ?_ _) | (with_reducible refine Kd.C_drewN ?_ _) | (with_reducible refine Kd.C_drew ?_)))
           (case side2 => exact HC275_0.out)
           (case side3 => repeat (first | exact (Kd.bZ HR276_0.out HB.out) | (with_reducible refine Kd.C_alloc ?_ _) | (with_reducible refine Kd.C_drewN ?_ _) | (with_reducible refine Kd.C_drew ?_)))
           (case side4 => exact HC276_0.out)
           rintro e w70 ⟨v278, rfl, ho0, hb⟩
           refine ⟨_, rfl, ?_⟩
           have n0_ := Aside0.mk (Kd.R_lower ho0 (bK (by repeat (first | (with_reducible first | exact HB.out | apply bE | apply bA | apply bD | refine bJ ?_ GE260.out) | exact HB.out))))
           have n1_ := Aside0.mk (bU (g := gb260) (o := .cells #[.int .i64 a0_0, .int .i64 a0_1, .int .i64 a0_2, .int .i64 a0_3, .bool a0_4] 23 (0, 0)) (by (with_reducible repeat (first | refine bG ?_ _ | refine bH ?_ | refine bF ?_ _)); exact BK260.out) hb)
           have n2_ := Aside0.mk (bP (by repeat (first | (with_reducible first | exact HB.out | apply bE | apply bA | apply bD | refine bJ ?_ GE260.out) | exact HB.out)) hb)
           clear BK260
           clear HB
           have HO279 := n0_
           have BK260 := n1_
           have HB := n2_
           clear n0_ n1_ n2_
           (try clear hb)
           (try clear hb2)
           (try clear hk)
           (try clear hi)
           (try clear ho0)
           refine hK.out _ _ ⟨(bC BK260.out 0).trans rfl, (bC BK260.out 1).trans rfl, (bC BK260.out 2).trans rfl, (bC BK260.out 3).trans rfl, (bC BK260.out 4).trans rfl, ((HB.out.cell (World.block_lt_of_cell? w _ hw275_0)).trans hw275_0), ((HB.out.cell (World.block_lt_of_cell? w _ hw276_0)).trans hw276_0)⟩ (fun hHeld => ?_)
           clear hK K
           refine norm_ (a' := ?_) ?_ ?_
           rotate_left
           ·show Act.put _ (some 92) _ = _
            simp only [Act.put, sZ1, sZ2, sZ3, bL, bM]
            rfl
           refine bR (i := 15) (N := some 93) (v := ?_) (a' := ?_) #[true, true, true, true, true, true, true, true, true, true, true, true, true, true, true, true, false, false, false] rfl rfl (bQ HT_.out (by kernel_rfl)) (fun _ _ _ h => h) (Or.inl ⟨by rfl, ?_⟩) ?_ ?_
           rotate_left
           ·intro w'
            go_simp
            with_reducible rfl
           rotate_left
           ·simp only [Act.put, sZ1, sZ2, sZ3, bL, bM]
            rfl
           refine bR (i := 16) (N := some 94) (v := ?_) (a' := ?_) #[true, true, true, true, true, true, true, true, true, true, true, true, true, true, true, true, true, false, false] rfl rfl (bQ HT_.out (by kernel_rfl)) (fun _ _ _ h => h) (Or.inl ⟨by rfl, ?_⟩) ?_ ?_
           rotate_left
           ·intro w'
            go_simp
            with_reducible rfl
           rotate_left
           ·simp only [Act.put, sZ1, sZ2, sZ3, bL, bM]
            rfl
           refine bR (i := 17) (N := some 6) (v := ?_) (a' := ?_) #[true, true, true, true, true, true, true, true, true, true, true, true, true, true, true, true, true, true, false] rfl rfl (bQ HT_.out (by kernel_rfl)) (fun _ _ _ h => h) (Or.inl ⟨by rfl, ?_⟩) ?_ ?_
           rotate_left
           ·intro w'
            go_simp
            with_reducible rfl
           rotate_left
           ·simp only [Act.put, sZ1, sZ2, sZ3, bL, bM]
            rfl
           refine bR (i := 18) (N := some 7) (v := ?_) (a' := ?_) #[true, true, true, true, true, true, true, true, true, true, true, true, true, true, true, true, true, true, true] rfl rfl (bQ HT_.out (by kernel_rfl)) (fun _ _ _ h => h) (Or.inl ⟨by rfl, ?_⟩) ?_ ?_
           rotate_left
           ·intro w'
            go_simp
            with_reducible rfl
           rotate_left
           ·simp only [Act.put, sZ1, sZ2, sZ3, bL, bM]
            rfl
           refine done_ (done_of HT_.out (by kernel_rfl)) ?_
           try go_wp2
           go_ret2
           exact ⟨_, by first | rfl | (simp [errW_none, errW_some] <;> rfl) | (simp [*, errW_none, errW_some] <;> rfl), by (with_reducible repeat (first | apply Kd.R_alloc | apply Kd.R_drewN | apply Kd.R_drew)); exact HO279.out, by repeat (first | (with_reducible first | exact HB.out | apply bE | apply bA | apply bD | refine bJ ?_ GE260.out) | exact HB.out)⟩
          ·rw [if_neg c66] at H
           exact absurd H (by simp)
         ·rw [if_neg c65] at H
          exact absurd H (by simp)
        ·rw [if_neg c64] at H
         exact absurd H (by simp)
       ·rw [if_neg c63] at H
        exact absurd H (by simp)
      ·rw [if_neg c62] at H
       have c62b0 : (a0_0 == 2) = false := beq_eq_false_iff_ne.mpr c62
       have c62b1 : (a0_0 != 2) = true := bne_iff_ne.mpr c62
       by_cases c71 : a0_0 = 3
       ·rw [if_pos c71] at H
        have c71b0 : (a0_0 == 3) = true := beq_iff_eq.mpr c71
        have c71b1 : (a0_0 != 3) = false := bne_eq_false_iff_eq.mpr c71
        clear c71
        by_cases c72 : 0 ≤ a0_2
        ·rw [if_pos c72] at H
         have c72b0 : decide (0 ≤ a0_2) = true := decide_eq_true c72
         clear c72
         by_cases c73 : a0_2 < (l1.length : Int)
         ·rw [if_pos c73] at H
          have c73b0 : decide (a0_2 < (l1.length : Int)) = true := decide_eq_true c73
          clear c73
          by_cases c74 : 0 ≤ a0_1
          ·rw [if_pos c74] at H
           have c74b0 : decide (0 ≤ a0_1) = true := decide_eq_true c74
           clear c74
           by_cases c75 : a0_1 < (l1.length : Int)
           ·rw [if_pos c75] at H
            have c75b0 : decide (a0_1 < (l1.length : Int)) = true := decide_eq_true c75
            clear c75
            replace H := Option.bind_eq_some_iff.mp H
            obtain ⟨⟨t283, t286⟩, A760, H⟩ := H
            replace H : (some (t283, t286)) = some (r1, r2) := H
            have A76 := Aside0.mk A760
            clear A760
            simp only [Option.some.injEq, Prod.mk.injEq] at H
            obtain ⟨rfl, rfl⟩ := H
            have hcz77_0 : wc.cell? ⟨gb260, 0, none⟩ = some (.int .i64 a0_0) := (bC BK260.out 0).trans rfl
            have hcz77_1 : wc.cell? ⟨gb260, 1, none⟩ = some (.int .i64 a0_1) := (bC BK260.out 1).trans rfl
            have hcz77_2 : wc.cell? ⟨gb260, 2, none⟩ = some (.int .i64 a0_2) := (bC BK260.out 2).trans rfl
            have hcz77_3 : wc.cell? ⟨gb260, 3, none⟩ = some (.int .i64 a0_3) := (bC BK260.out 3).trans rfl
            have hcz77_4 : wc.cell? ⟨gb260, 4, none⟩ = some (.bool a0_4) := (bC BK260.out 4).trans rfl
            have hfz77_0 := bB BK260.out 0
            have hfz77_1 := bB BK260.out 1
            have hfz77_2 := bB BK260.out 2
            have hfz77_3 := bB BK260.out 3
            have hfz77_4 := bB BK260.out 4
            try go_wp2
            have n0_ := Aside0.mk (bH BK260.out)
            have n1_ := Aside0.mk (bD HB.out)
            clear BK260
            clear HB
            have BK260 := n0_
            have HB := n1_
            clear n0_ n1_
            have p281 : 0 ≤ (a0_2 : Int) := of_decide_eq_true (by first | (with_reducible assumption) | assumption)
            have q281 : a0_2 < (l1.length : Int) := of_decide_eq_true (by first | (with_reducible assumption) | assumption)
            obtain ⟨ad281, A281_0, c281_0, e281, hx281_0, hl281_0, hi281_0⟩ := at_T44 HR1.out a0_2 p281 q281
            have hw281_0 := hx281_0
            cases e281
            replace hx281_0 := (HB.out.cell (World.block_lt_of_cell? w _ hx281_0)).trans hx281_0
            have HR281_0 := Aside0.mk hi281_0
            have HC281_0 := Aside0.mk hl281_0
            clear hi281_0 hl281_0
            replace p281 := eq_true p281
            replace q281 := eq_true q281
            have p282 : 0 ≤ (a0_1 : Int) := of_decide_eq_true (by first | (with_reducible assumption) | assumption)
            have q282 : a0_1 < (l1.length : Int) := of_decide_eq_true (by first | (with_reducible assumption) | assumption)
            obtain ⟨ad282, A282_0, c282_0, e282, hx282_0, hl282_0, hi282_0⟩ := at_T44 HR1.out a0_1 p282 q282
            have hw282_0 := hx282_0
            obtain rfl : ad281 = ad282 := (by injection e282)
            replace hx282_0 := (HB.out.cell (World.block_lt_of_cell? w _ hx282_0)).trans hx282_0
            have HR282_0 := Aside0.mk hi282_0
            have HC282_0 := Aside0.mk hl282_0
            clear hi282_0 hl282_0
            replace p282 := eq_true p282
            replace q282 := eq_true q282
            refine start_ (n := 19) (S := fun w' => w'.cell? ⟨gb260, 0, none⟩ = some (.int .i64 a0_0) ∧ w'.cell? ⟨gb260, 1, none⟩ = some (.int .i64 a0_1) ∧ w'.cell? ⟨gb260, 2, none⟩ = some (.int .i64 a0_2) ∧ w'.cell? ⟨gb260, 3, none⟩ = some (.int .i64 a0_3) ∧ w'.cell? ⟨gb260, 4, none⟩ = some (.bool a0_4) ∧ w'.cell? (ad281.add (a0_2).toNat) = some (.slice A281_0 ((rd_T44 l1 a0_2).f0).length c281_0) ∧ w'.cell? (ad281.add (a0_1).toNat) = some (.slice A282_0 ((rd_T44 l1 a0_1).f0).length c282_0)) (ds := []) #[false, false, false, false, false, false, false, false, false, false, false, false, false, false, false, false, false, false, false] (by kernel_rfl) rfl rfl ⟨(bC BK260.out 0).trans rfl, (bC BK260.out 1).trans rfl, (bC BK260.out 2).trans rfl, (bC BK260.out 3).trans rfl, (bC BK260.out 4).trans rfl, ((HB.out.cell (World.block_lt_of_cell? w _ hw281_0)).trans hw281_0), ((HB.out.cell (World.block_lt_of_cell? w _ hw282_0)).trans hw282_0)⟩ (fun hHeld => ?_); refine with_tabW easementref18_Needs.tab10 easementref18_Needs.bits10 (fun HT_ HW_ => ?_)
            generalize wc.drew = w78 at BK260 HB HR281_0 HR282_0 hx281_0 hx282_0 hHeld ⊢
            refine bR (i := 0) (N := some 98) (v := ?_) (a' := ?_) #[true, false, false, false, false, false, false, false, false, false, false, false, false, false, false, false, false, false, false] rfl rfl (bQ HT_.out (by kernel_rfl)) (fun _ _ _ h => h) (Or.inl ⟨by rfl, ?_⟩) ?_ ?_
            rotate_left
            ·intro w'
             go_simp
             with_reducible rfl
            rotate_left
            ·simp only [Act.put, sZ1, sZ2, sZ3, bL, bM]
             rfl
            refine bR (i := 1) (N := some 99) (v := ?_) (a' := ?_) #[true, true, false, false, false, false, false, false, false, false, false, false, false, false, false, false, false, false, false] rfl rfl (bQ HT_.out (by kernel_rfl)) (fun _ _ _ h => h) (Or.inl ⟨by rfl, ?_⟩) ?_ ?_
            rotate_left
            ·intro w'
             go_simp
             with_reducible rfl
            rotate_left
            ·simp only [Act.put, sZ1, sZ2, sZ3, bL, bM]
             rfl
            refine bR (i := 5) (N := some 103) (v := ?_) (a' := ?_) #[true, true, false, false, false, true, false, false, false, false, false, false, false, false, false, false, false, false, false] rfl rfl (bQ HT_.out (by kernel_rfl)) (fun _ _ _ h => h) (Or.inl ⟨by rfl, ?_⟩) ?_ ?_
            rotate_left
            ·intro w'
             go_simp
             with_reducible rfl
            rotate_left
            ·simp only [Act.put, sZ1, sZ2, sZ3, bL, bM]
             rfl
            refine bR (i := 6) (N := some 104) (v := ?_) (a' := ?_) #[true, true, false, false, false, true, true, false, false, false, false, false, false, false, false, false, false, false, false] rfl rfl (bQ HT_.out (by kernel_rfl)) (fun _ _ _ h => h) (Or.inl ⟨by rfl, ?_⟩) ?_ ?_
            rotate_left
            ·intro w'
             go_simp
             with_reducible rfl
            rotate_left
            ·simp only [Act.put, sZ1, sZ2, sZ3, bL, bM]
             rfl
            refine bR (i := 10) (N := some 108) (v := ?_) (a' := ?_) #[true, true, false, false, false, true, true, false, false, false, true, false, false, false, false, false, false, false, false] rfl rfl (bQ HT_.out (by kernel_rfl)) (fun _ _ _ h => h) (Or.inl ⟨by rfl, ?_⟩) ?_ ?_
            rotate_left
            ·intro w'
             go_simp
             with_reducible rfl
            rotate_left
            ·simp only [Act.put, sZ1, sZ2, sZ3, bL, bM]
             rfl
            refine bR (i := 12) (N := some 110) (v := ?_) (a' := ?_) #[true, true, false, false, false, true, true, false, false, false, true, false, true, false, false, false, false, false, false] rfl rfl (bQ HT_.out (by kernel_rfl)) (fun _ _ _ h => h) (Or.inl ⟨by rfl, ?_⟩) ?_ ?_
            rotate_left
            ·intro w'
             go_simp
             with_reducible rfl
            rotate_left
            ·simp only [Act.put, sZ1, sZ2, sZ3, bL, bM]
             rfl
            refine take_ (i := 2) (N := some 100) (v := ?_) (a' := ?_) #[true, true, true, false, false, true, true, false, false, false, true, false, true, false, false, false, false, false, false] rfl rfl (bX HT_.out HW_.out (by kernel_rfl)) (fun _ _ _ h => h) (Or.inl ⟨by rfl, ?_⟩) hHeld ?_ ?_
            rotate_left
            ·rintro w' ⟨s0, s1, s2, s3, s4, s5, s6⟩
             go_simp
             with_reducible rfl
            rotate_left
            ·simp only [Act.put, sZ1, sZ2, sZ3, bL, bM]
             rfl
            refine bR (i := 3) (N := some 101) (v := ?_) (a' := ?_) #[true, true, true, true, false, true, true, false, false, false, true, false, true, false, false, false, false, false, false] rfl rfl (bQ HT_.out (by kernel_rfl)) (fun _ _ _ h => h) (Or.inl ⟨by rfl, ?_⟩) ?_ ?_
            rotate_left
            ·intro w'
             go_simp
             with_reducible rfl
            rotate_left
            ·simp only [Act.put, sZ1, sZ2, sZ3, bL, bM]
             rfl
            refine take_ (i := 4) (N := some 102) (v := ?_) (a' := ?_) #[true, true, true, true, true, true, true, false, false, false, true, false, true, false, false, false, false, false, false] rfl rfl (bX HT_.out HW_.out (by kernel_rfl)) (fun _ _ _ h => h) (Or.inl ⟨by rfl, ?_⟩) hHeld ?_ ?_
            rotate_left
            ·rintro w' ⟨s0, s1, s2, s3, s4, s5, s6⟩
             go_simp
             with_reducible rfl
            rotate_left
            ·simp only [Act.put, sZ1, sZ2, sZ3, bL, bM]
             rfl
            refine take_ (i := 7) (N := some 105) (v := ?_) (a' := ?_) #[true, true, true, true, true, true, true, true, false, false, true, false, true, false, false, false, false, false, false] rfl rfl (bX HT_.out HW_.out (by kernel_rfl)) (fun _ _ _ h => h) (Or.inl ⟨by rfl, ?_⟩) hHeld ?_ ?_
            rotate_left
            ·rintro w' ⟨s0, s1, s2, s3, s4, s5, s6⟩
             go_simp
             with_reducible rfl
            rotate_left
            ·simp only [Act.put, sZ1, sZ2, sZ3, bL, bM]
             rfl
            refine bR (i := 8) (N := some 106) (v := ?_) (a' := ?_) #[true, true, true, true, true, true, true, true, true, false, true, false, true, false, false, false, false, false, false] rfl rfl (bQ HT_.out (by kernel_rfl)) (fun _ _ _ h => h) (Or.inl ⟨by rfl, ?_⟩) ?_ ?_
            rotate_left
            ·intro w'
             go_simp
             with_reducible rfl
            rotate_left
            ·simp only [Act.put, sZ1, sZ2, sZ3, bL, bM]
             rfl
            refine take_ (i := 9) (N := some 107) (v := ?_) (a' := ?_) #[true, true, true, true, true, true, true, true, true, true, true, false, true, false, false, false, false, false, false] rfl rfl (bX HT_.out HW_.out (by kernel_rfl)) (fun _ _ _ h => h) (Or.inl ⟨by rfl, ?_⟩) hHeld ?_ ?_
            rotate_left
            ·rintro w' ⟨s0, s1, s2, s3, s4, s5, s6⟩
             go_simp
             with_reducible rfl
            rotate_left
            ·simp only [Act.put, sZ1, sZ2, sZ3, bL, bM]
             rfl
            refine take_ (i := 11) (N := some 109) (v := ?_) (a' := ?_) #[true, true, true, true, true, true, true, true, true, true, true, true, true, false, false, false, false, false, false] rfl rfl (bX HT_.out HW_.out (by kernel_rfl)) (fun _ _ _ h => h) (Or.inl ⟨by rfl, ?_⟩) hHeld ?_ ?_
            rotate_left
            ·rintro w' ⟨s0, s1, s2, s3, s4, s5, s6⟩
             go_simp
             with_reducible rfl
            rotate_left
            ·simp only [Act.put, sZ1, sZ2, sZ3, bL, bM]
             rfl
            refine take_ (i := 13) (N := some 111) (v := ?_) (a' := ?_) #[true, true, true, true, true, true, true, true, true, true, true, true, true, true, false, false, false, false, false] rfl rfl (bX HT_.out HW_.out (by kernel_rfl)) (fun _ _ _ h => h) (Or.inl ⟨by rfl, ?_⟩) hHeld ?_ ?_
            rotate_left
            ·rintro w' ⟨s0, s1, s2, s3, s4, s5, s6⟩
             go_simp
             with_reducible rfl
            rotate_left
            ·simp only [Act.put, sZ1, sZ2, sZ3, bL, bM]
             rfl
            refine one_ (i := 14) (N := some 112) #[true, true, true, true, true, true, true, true, true, true, true, true, true, true, true, false, false, false, false] rfl rfl (one_of HT_.out (by kernel_rfl)) (by decide) (fun K hK => ?_)
            refine goes_ Try.func90 (by kernel_rfl) rfl #[.agg #[.slice A281_0 ((rd_T44 l1 a0_2).f0).length c281_0], .agg #[.slice A282_0 ((rd_T44 l1 a0_1).f0).length c282_0], .int .i64 a0_3, .bool a0_4] (by rfl) rfl rfl (by (try simp only [List.map_toArray, List.map_cons, List.map_nil]); first | done | rfl | (simp only [List.length_drop, List.length_take]; rfl)) ?_
            with_reducible refine (easementref16_Again.calls kj5 _ _ ((rd_T44 l1 a0_2).f0) _ _ ((rd_T44 l1 a0_1).f0) a0_3 a0_4 t283 t286 _ ?side1 ?side2 ?side3 ?side4 A76.out).mono ?_
            (case side1 => repeat (first | exact (Kd.bZ HR281_0.out HB.out) | (with_reducible refine Kd.C_alloc ?_ _) | (with_reducible refine Kd.C_drewN ?_ _) | (with_reducible refine Kd.C_drew ?_)))
            (case side2 => exact HC281_0.out)
            (case side3 => repeat (first | exact (Kd.bZ HR282_0.out HB.out) | (with_reducible refine Kd.C_alloc ?_ _) | (with_reducible refine Kd.C_drewN ?_ _) | (with_reducible refine Kd.C_drew ?_)))
            (case side4 => exact HC282_0.out)
            rintro e w79 ⟨v284, rfl, ho0, hb⟩
            refine ⟨_, rfl, ?_⟩
            have n0_ := Aside0.mk (Kd.R_lower ho0 (bK (by repeat (first | (with_reducible first | exact HB.out | apply bE | apply bA | apply bD | refine bJ ?_ GE260.out) | exact HB.out))))
            have n1_ := Aside0.mk (bU (g := gb260) (o := .cells #[.int .i64 a0_0, .int .i64 a0_1, .int .i64 a0_2, .int .i64 a0_3, .bool a0_4] 23 (0, 0)) (by (with_reducible repeat (first | refine bG ?_ _ | refine bH ?_ | refine bF ?_ _)); exact BK260.out) hb)
            have n2_ := Aside0.mk (bP (by repeat (first | (with_reducible first | exact HB.out | apply bE | apply bA | apply bD | refine bJ ?_ GE260.out) | exact HB.out)) hb)
            clear BK260
            clear HB
            have HO285 := n0_
            have BK260 := n1_
            have HB := n2_
            clear n0_ n1_ n2_
            (try clear hb)
            (try clear hb2)
            (try clear hk)
            (try clear hi)
            (try clear ho0)
            refine hK.out _ _ ⟨(bC BK260.out 0).trans rfl, (bC BK260.out 1).trans rfl, (bC BK260.out 2).trans rfl, (bC BK260.out 3).trans rfl, (bC BK260.out 4).trans rfl, ((HB.out.cell (World.block_lt_of_cell? w _ hw281_0)).trans hw281_0), ((HB.out.cell (World.block_lt_of_cell? w _ hw282_0)).trans hw282_0)⟩ (fun hHeld => ?_)
            clear hK K
            refine norm_ (a' := ?_) ?_ ?_
            rotate_left
            ·show Act.put _ (some 112) _ = _
             simp only [Act.put, sZ1, sZ2, sZ3, bL, bM]
             rfl
            refine bR (i := 15) (N := some 113) (v := ?_) (a' := ?_) #[true, true, true, true, true, true, true, true, true, true, true, true, true, true, true, true, false, false, false] rfl rfl (bQ HT_.out (by kernel_rfl)) (fun _ _ _ h => h) (Or.inl ⟨by rfl, ?_⟩) ?_ ?_
            rotate_left
            ·intro w'
             go_simp
             with_reducible rfl
            rotate_left
            ·simp only [Act.put, sZ1, sZ2, sZ3, bL, bM]
             rfl
            refine bR (i := 16) (N := some 114) (v := ?_) (a' := ?_) #[true, true, true, true, true, true, true, true, true, true, true, true, true, true, true, true, true, false, false] rfl rfl (bQ HT_.out (by kernel_rfl)) (fun _ _ _ h => h) (Or.inl ⟨by rfl, ?_⟩) ?_ ?_
            rotate_left
            ·intro w'
             go_simp
             with_reducible rfl
            rotate_left
            ·simp only [Act.put, sZ1, sZ2, sZ3, bL, bM]
             rfl
            refine bR (i := 17) (N := some 6) (v := ?_) (a' := ?_) #[true, true, true, true, true, true, true, true, true, true, true, true, true, true, true, true, true, true, false] rfl rfl (bQ HT_.out (by kernel_rfl)) (fun _ _ _ h => h) (Or.inl ⟨by rfl, ?_⟩) ?_ ?_
            rotate_left
            ·intro w'
             go_simp
             with_reducible rfl
            rotate_left
            ·simp only [Act.put, sZ1, sZ2, sZ3, bL, bM]
             rfl
            refine bR (i := 18) (N := some 7) (v := ?_) (a' := ?_) #[true, true, true, true, true, true, true, true, true, true, true, true, true, true, true, true, true, true, true] rfl rfl (bQ HT_.out (by kernel_rfl)) (fun _ _ _ h => h) (Or.inl ⟨by rfl, ?_⟩) ?_ ?_
            rotate_left
            ·intro w'
             go_simp
             with_reducible rfl
            rotate_left
            ·simp only [Act.put, sZ1, sZ2, sZ3, bL, bM]
             rfl
            refine done_ (done_of HT_.out (by kernel_rfl)) ?_
            try go_wp2
            go_ret2
            exact ⟨_, by first | rfl | (simp [errW_none, errW_some] <;> rfl) | (simp [*, errW_none, errW_some] <;> rfl), by (with_reducible repeat (first | apply Kd.R_alloc | apply Kd.R_drewN | apply Kd.R_drew)); exact HO285.out, by repeat (first | (with_reducible first | exact HB.out | apply bE | apply bA | apply bD | refine bJ ?_ GE260.out) | exact HB.out)⟩
           ·rw [if_neg c75] at H
            exact absurd H (by simp)
          ·rw [if_neg c74] at H
           exact absurd H (by simp)
         ·rw [if_neg c73] at H
          exact absurd H (by simp)
        ·rw [if_neg c72] at H
         exact absurd H (by simp)
       ·rw [if_neg c71] at H
        have c71b0 : (a0_0 == 3) = false := beq_eq_false_iff_ne.mpr c71
        have c71b1 : (a0_0 != 3) = true := bne_iff_ne.mpr c71
        simp only [Option.some.injEq, Prod.mk.injEq] at H
        obtain ⟨rfl, rfl⟩ := H
        have hcz80_0 : wc.cell? ⟨gb260, 0, none⟩ = some (.int .i64 a0_0) := (bC BK260.out 0).trans rfl
        have hcz80_1 : wc.cell? ⟨gb260, 1, none⟩ = some (.int .i64 a0_1) := (bC BK260.out 1).trans rfl
        have hcz80_2 : wc.cell? ⟨gb260, 2, none⟩ = some (.int .i64 a0_2) := (bC BK260.out 2).trans rfl
        have hcz80_3 : wc.cell? ⟨gb260, 3, none⟩ = some (.int .i64 a0_3) := (bC BK260.out 3).trans rfl
        have hcz80_4 : wc.cell? ⟨gb260, 4, none⟩ = some (.bool a0_4) := (bC BK260.out 4).trans rfl
        have hfz80_0 := bB BK260.out 0
        have hfz80_1 := bB BK260.out 1
        have hfz80_2 := bB BK260.out 2
        have hfz80_3 := bB BK260.out 3
        have hfz80_4 := bB BK260.out 4
        go_wp2
        go_ret2
        exact ⟨_, by first | rfl | (simp [errW_none, errW_some] <;> rfl) | (simp [*, errW_none, errW_some] <;> rfl), by first | exact Kd.R_nil _ _ _ _ _ | exact Kd.N_nil _ _ _ _ _ | exact Kd.V_nil _ _ _ _ _ | exact Kd.Q_nil _ _ _ _ _ | exact Kd.S_nil _ _ _ _ _, by repeat (first | (with_reducible first | exact HB.out | apply bE | apply bA | apply bD | refine bJ ?_ GE260.out) | exact HB.out)⟩
 ·replace c5 := Bool.eq_false_iff.mpr c5
  subst c5
  have H1 : (some (([] : List (S128)), 3)) = some (r1, r2) := by rw [if_neg (show ¬ (false = true) by decide)] at H; exact H
  clear H
  have H := H1
  clear H1
  simp only [Option.some.injEq, Prod.mk.injEq] at H
  obtain ⟨rfl, rfl⟩ := H
  go_enter Try.func37, Try.ntmps37
  go_wp2_with (first | ((with_reducible refine bT (N := 3) rfl ?_); (try (refine gate_guard (by rfl) ?_; dsimp only)); refine bS ?hg (N := 3) ?hd (cs := #[.int .i64 a0_0, .int .i64 a0_1, .int .i64 a0_2, .int .i64 a0_3, .bool a0_4]) (t := 23) ?hr ?_; (case hd => rfl); (case hg => rfl); (case hr => first | (go_simp; done) | (go_simp; rfl)); intro gb260 hg w81 hbox hb; have n0_ := Aside0.mk (bP (by repeat (first | (with_reducible first | exact HB.out | apply bE | apply bA | apply bD) | exact HB.out)) hb); have n1_ := Aside0.mk (hbox); have n2_ := Aside0.mk ((by rw [hg]; exact (bK (by repeat (first | (with_reducible first | exact HB.out | apply bE | apply bA | apply bD) | exact HB.out))) : w.heap.size ≤ gb260)); have n3_ := Aside0.mk ((by rw [hg]; exact (bK (by repeat (first | (with_reducible first | exact HB.out | apply bE | apply bA | apply bD) | exact HB.out))) : w.heap.size ≤ gb260)); clear HB; have HB := n0_; have BK260 := n1_; have GW260 := n2_; have GE260 := n3_; clear n0_ n1_ n2_ n3_; clear hb hbox hg; have hcz82_0 : w81.cell? ⟨gb260, 0, none⟩ = some (.int .i64 a0_0) := (bC BK260.out 0).trans rfl; have hcz82_1 : w81.cell? ⟨gb260, 1, none⟩ = some (.int .i64 a0_1) := (bC BK260.out 1).trans rfl; have hcz82_2 : w81.cell? ⟨gb260, 2, none⟩ = some (.int .i64 a0_2) := (bC BK260.out 2).trans rfl; have hcz82_3 : w81.cell? ⟨gb260, 3, none⟩ = some (.int .i64 a0_3) := (bC BK260.out 3).trans rfl; have hcz82_4 : w81.cell? ⟨gb260, 4, none⟩ = some (.bool a0_4) := (bC BK260.out 4).trans rfl; have hfz82_0 := bB BK260.out 0; have hfz82_1 := bB BK260.out 1; have hfz82_2 := bB BK260.out 2; have hfz82_3 := bB BK260.out 3; have hfz82_4 := bB BK260.out 4) | ((with_reducible refine bV (f := 66) rfl ?_); refine goesL_ (some 9) rfl rfl Try.func66 (by kernel_rfl) rfl #[.agg #[.int .i64 a0_0, .int .i64 a0_1, .int .i64 a0_2, .int .i64 a0_3, .bool a0_4]] rfl (by (try simp only [List.map_toArray, List.map_cons, List.map_nil]); first | done | rfl | (simp only [List.length_drop, List.length_take]; rfl)) ?_; (with_reducible refine (easementref18_Form.calls a0_0 a0_1 a0_2 a0_3 a0_4 false _ A4.out).mono ?_); rintro e w83 ⟨rfl, hb⟩; refine ⟨_, rfl, ?_⟩; have n0_ := Aside0.mk (bU (g := gb260) (o := .cells #[.int .i64 a0_0, .int .i64 a0_1, .int .i64 a0_2, .int .i64 a0_3, .bool a0_4] 23 (0, 0)) (by (with_reducible repeat (first | refine bG ?_ _ | refine bH ?_ | refine bF ?_ _)); exact BK260.out) hb); have n1_ := Aside0.mk (bP (by repeat (first | (with_reducible first | exact HB.out | apply bE | apply bA | apply bD | refine bJ ?_ GE260.out) | exact HB.out)) hb); clear BK260; clear HB; have BK260 := n0_; have HB := n1_; clear n0_ n1_; (try clear hb); (try clear hb2); (try clear hk); (try clear hi)))
  go_ret2
  exact ⟨_, by first | rfl | (simp [errW_none, errW_some] <;> rfl) | (simp [*, errW_none, errW_some] <;> rfl), by first | exact Kd.R_nil _ _ _ _ _ | exact Kd.N_nil _ _ _ _ _ | exact Kd.V_nil _ _ _ _ _ | exact Kd.Q_nil _ _ _ _ _ | exact Kd.S_nil _ _ _ _ _, by repeat (first | (with_reducible first | exact HB.out | apply bE | apply bA | apply bD | refine bJ ?_ GE260.out) | exact HB.out)⟩

end Go.Proofs.Ythhebinonpoddaa.GStmtNeeds
