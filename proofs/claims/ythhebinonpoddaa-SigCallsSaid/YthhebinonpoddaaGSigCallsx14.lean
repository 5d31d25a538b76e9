/- Written for this claim by gp.py, a program of this session's, over the kit's print. Lean checks it. -/
import Derived.Test.YthhebinonpoddaaGSigCallsx0
import Derived.Test.YthhebinonpoddaaGSigCallsx10
import Derived.Test.YthhebinonpoddaaGSigCallsx12
import Derived.Test.YthhebinonpoddaaGSigCallsx13
namespace Go.Proofs.Ythhebinonpoddaa.GSigCalls
open Go.RowKit Go.Proofs.YthhebinonpoddaaW.PrintWords Go.Proofs.YthhebinonpoddaaW.PrintLast Go.Proofs.YthhebinonpoddaaW.PrintMore
attribute [local go_sem] max2_int min2_int max_two min_two max_three min_three max_four min_four   -- for this text's walks alone
set_option linter.unusedVariables false
set_option linter.unusedSimpArgs false

/-! ### easementref17_Call: function 45 -/
mutual
def easementref17_Call.j0 : Nat → List Int → List (S44) → Bool → Int → List (S117) → List (S44) → List (S115) → List (S115) → Option ((List (S128)) × Int)
 | 0, _, _, _, _, _, _, _, _ => none
 | k + 1, x1, x2, x39, x248000, x248001, x248002, x248003, x249000 => if x39 = true then (some (([] : List (S128)), 2)) else (easementref17_Call.l0 k x1 x2 (([] : List (S128))) 0 x248000 x248001 x248002 x248003 x249000)
def easementref17_Call.l0 : Nat → List Int → List (S44) → List (S128) → Int → Int → List (S117) → List (S44) → List (S115) → List (S115) → Option ((List (S128)) × Int)
 | 0, _, _, _, _, _, _, _, _, _ => none
 | k + 1, x1, x2, x11, x12, x248000, x248001, x248002, x248003, x249000 => if x12 < (x248001.length : Int) then (if 0 ≤ x12 then (if 0 ≤ ((rd_T117 x248001 x12).f0) then (if ((rd_T117 x248001 x12).f0) < (x1.length : Int) then (if 0 ≤ ((rd_T117 x248001 x12).f1) then (if ((rd_T117 x248001 x12).f1) < (x1.length : Int) then (if x11.length < 3518437208883 then (easementref17_Call.l0 k x1 x2 (x11 ++ [(⟨rd x1 ((rd_T117 x248001 x12).f0), rd x1 ((rd_T117 x248001 x12).f1), 4, x12, false⟩ : S128)]) (wrap64 (x12 + 1)) x248000 x248001 x248002 x248003 x249000) else (none)) else (none)) else (none)) else (none)) else (none)) else (none)) else (easementref17_Call.l1 k x1 x2 x11 0 x248000 x248001 x248002 x248003 x249000)
def easementref17_Call.l1 : Nat → List Int → List (S44) → List (S128) → Int → Int → List (S117) → List (S44) → List (S115) → List (S115) → Option ((List (S128)) × Int)
 | 0, _, _, _, _, _, _, _, _, _ => none
 | k + 1, x1, x2, x11, x13, x248000, x248001, x248002, x248003, x249000 => if x13 < (x248002.length : Int) then (if 0 ≤ x13 then ((easementref15_Subst.f k ((rd_T44 x248002 x13).f0) x1).bind fun bt261 => (if x13 < (x2.length : Int) then ((easementref16_Flow.f k ((rd_T44 x2 x13).f0) bt261.1 5 (wrap64 (16 * x13))).bind fun bt267 => (if bt267.2 = 0 then (if x11.length + bt267.1.length < 3518437208883 then (easementref17_Call.l1 k x1 x2 (x11 ++ bt267.1) (wrap64 (x13 + 1)) x248000 x248001 x248002 x248003 x249000) else (none)) else (some (([] : List (S128)), bt267.2)))) else (none))) else (none)) else ((easementref15_Subst.f k x248003 x1).bind fun bt274 => ((easementref16_Flow.f k bt274.1 x249000 6 0).bind fun bt279 => (if bt279.2 = 0 then (if x11.length + bt279.1.length < 3518437208883 then (some ((x11 ++ bt279.1), 0)) else (none)) else (some (([] : List (S128)), bt279.2)))))
end
def easementref17_Call.f (k : Nat) (a0_0 : Int) (l0_1 : List (S117)) (l0_2 : List (S44)) (l0_3 : List (S115)) (l1 : List Int) (l2 : List (S44)) (l3_0 : List (S115)) : Option ((List (S128)) × Int) := (easementref17_Check.f k a0_0 l0_1 l0_2 l0_3).bind fun t249 => (if t249 = 0 then (if (l1.length : Int) = a0_0 then (easementref17_Call.j0 k l1 l2 ((l2.length : Int) != (l0_2.length : Int)) a0_0 l0_1 l0_2 l0_3 l3_0) else (easementref17_Call.j0 k l1 l2 true a0_0 l0_1 l0_2 l0_3 l3_0)) else (some (([] : List (S128)), t249)))
theorem easementref17_Call.mono_l : ∀ k, (∀ y0 y1 y2 y3 y4 y5 y6 y7, LeO (easementref17_Call.j0 k y0 y1 y2 y3 y4 y5 y6 y7) (easementref17_Call.j0 (k + 1) y0 y1 y2 y3 y4 y5 y6 y7)) ∧ (∀ y0 y1 y2 y3 y4 y5 y6 y7 y8, LeO (easementref17_Call.l0 k y0 y1 y2 y3 y4 y5 y6 y7 y8) (easementref17_Call.l0 (k + 1) y0 y1 y2 y3 y4 y5 y6 y7 y8)) ∧ (∀ y0 y1 y2 y3 y4 y5 y6 y7 y8, LeO (easementref17_Call.l1 k y0 y1 y2 y3 y4 y5 y6 y7 y8) (easementref17_Call.l1 (k + 1) y0 y1 y2 y3 y4 y5 y6 y7 y8))
 | 0 => ⟨fun _ _ _ _ _ _ _ _ r h => by simp [easementref17_Call.j0] at h, fun _ _ _ _ _ _ _ _ _ r h => by simp [easementref17_Call.l0] at h, fun _ _ _ _ _ _ _ _ _ r h => by simp [easementref17_Call.l1] at h⟩
 | k + 1 => by
  obtain ⟨ih0, ih1, ih2⟩ := easementref17_Call.mono_l k
  refine ⟨?_, ?_, ?_⟩
  ·intro y0 y1 y2 y3 y4 y5 y6 y7
   unfold easementref17_Call.j0
   repeat' first
   | (with_reducible exact ih0 _ _ _ _ _ _ _ _)
   | (with_reducible exact ih1 _ _ _ _ _ _ _ _ _)
   | (with_reducible exact ih2 _ _ _ _ _ _ _ _ _)
   | (with_reducible exact easementref15_Subst.mono _ _ _)
   | (with_reducible exact easementref16_Flow.mono _ _ _ _ _)
   | (with_reducible exact easementref17_Check.mono _ _ _ _ _)
   | (with_reducible exact LeO.refl _)
   | (with_reducible exact LeO.none _)
   | (with_reducible refine LeO.ite ?_ ?_)
   | (with_reducible refine LeO.bind ?_ (fun _ => ?_))
   | exact ih0 _ _ _ _ _ _ _ _
   | exact ih1 _ _ _ _ _ _ _ _ _
   | exact ih2 _ _ _ _ _ _ _ _ _
   | exact easementref15_Subst.mono _ _ _
   | exact easementref16_Flow.mono _ _ _ _ _
   | exact easementref17_Check.mono _ _ _ _ _
   | exact LeO.none _
   | refine LeO.ite ?_ ?_
   | refine LeO.bind ?_ (fun _ => ?_)
  ·intro y0 y1 y2 y3 y4 y5 y6 y7 y8
   unfold easementref17_Call.l0
   repeat' first
   | (with_reducible exact ih0 _ _ _ _ _ _ _ _)
   | (with_reducible exact ih1 _ _ _ _ _ _ _ _ _)
   | (with_reducible exact ih2 _ _ _ _ _ _ _ _ _)
   | (with_reducible exact easementref15_Subst.mono _ _ _)
   | (with_reducible exact easementref16_Flow.mono _ _ _ _ _)
   | (with_reducible exact easementref17_Check.mono _ _ _ _ _)
   | (with_reducible exact LeO.refl _)
   | (with_reducible exact LeO.none _)
   | (with_reducible refine LeO.ite ?_ ?_)
   | (with_reducible refine LeO.bind ?_ (fun _ => ?_))
   | exact ih0 _ _ _ _ _ _ _ _
   | exact ih1 _ _ _ _ _ _ _ _ _
   | exact ih2 _ _ _ _ _ _ _ _ _
   | exact easementref15_Subst.mono _ _ _
   | exact easementref16_Flow.mono _ _ _ _ _
   | exact easementref17_Check.mono _ _ _ _ _
   | exact LeO.none _
   | refine LeO.ite ?_ ?_
   | refine LeO.bind ?_ (fun _ => ?_)
  ·intro y0 y1 y2 y3 y4 y5 y6 y7 y8
   unfold easementref17_Call.l1
   repeat' first
   | (with_reducible exact ih0 _ _ _ _ _ _ _ _)
   | (with_reducible exact ih1 _ _ _ _ _ _ _ _ _)
   | (with_reducible exact ih2 _ _ _ _ _ _ _ _ _)
   | (with_reducible exact easementref15_Subst.mono _ _ _)
   | (with_reducible exact easementref16_Flow.mono _ _ _ _ _)
   | (with_reducible exact easementref17_Check.mono _ _ _ _ _)
   | (with_reducible exact LeO.refl _)
   | (with_reducible exact LeO.none _)
   | (with_reducible refine LeO.ite ?_ ?_)
   | (with_reducible refine LeO.bind ?_ (fun _ => ?_))
   | exact ih0 _ _ _ _ _ _ _ _
   | exact ih1 _ _ _ _ _ _ _ _ _
   | exact ih2 _ _ _ _ _ _ _ _ _
   | exact easementref15_Subst.mono _ _ _
   | exact easementref16_Flow.mono _ _ _ _ _
   | exact easementref17_Check.mono _ _ _ _ _
   | exact LeO.none _
   | refine LeO.ite ?_ ?_
   | refine LeO.bind ?_ (fun _ => ?_)
theorem easementref17_Call.mono : ∀ a0 a1 a2 a3 a4 a5 a6 k, LeO (easementref17_Call.f k a0 a1 a2 a3 a4 a5 a6) (easementref17_Call.f (k + 1) a0 a1 a2 a3 a4 a5 a6) := by
 intro a0 a1 a2 a3 a4 a5 a6 k
 obtain ⟨ih0, ih1, ih2⟩ := easementref17_Call.mono_l k
 unfold easementref17_Call.f
 repeat' first
   | (with_reducible exact ih0 _ _ _ _ _ _ _ _)
   | (with_reducible exact ih1 _ _ _ _ _ _ _ _ _)
   | (with_reducible exact ih2 _ _ _ _ _ _ _ _ _)
   | (with_reducible exact easementref15_Subst.mono _ _ _)
   | (with_reducible exact easementref16_Flow.mono _ _ _ _ _)
   | (with_reducible exact easementref17_Check.mono _ _ _ _ _)
   | (with_reducible exact LeO.refl _)
   | (with_reducible exact LeO.none _)
   | (with_reducible refine LeO.ite ?_ ?_)
   | (with_reducible refine LeO.bind ?_ (fun _ => ?_))
   | exact ih0 _ _ _ _ _ _ _ _
   | exact ih1 _ _ _ _ _ _ _ _ _
   | exact ih2 _ _ _ _ _ _ _ _ _
   | exact easementref15_Subst.mono _ _ _
   | exact easementref16_Flow.mono _ _ _ _ _
   | exact easementref17_Check.mono _ _ _ _ _
   | exact LeO.none _
   | refine LeO.ite ?_ ?_
   | refine LeO.bind ?_ (fun _ => ?_)
def easementref17_Call.T10 : Bool × List (List Nat × List Nat) := (true, [([], []), ([], []), ([], []), ([2], [2]), ([], []), ([3, 4], [3, 4]), ([5], [5]), ([6], [6]), ([1, 7], [1, 7]), ([8], [8]), ([], []), ([], []), ([11], [11]), ([], []), ([12, 13], [12, 13]), ([14], [14]), ([15], [15]), ([10, 16], [10, 16]), ([17], [17]), ([], []), ([9, 18, 19], [9, 18, 19]), ([20], [20]), ([0, 21], [0, 21]), ([22, 22, 0, 1, 2, 3, 4, 5, 6, 7, 8, 9, 10, 11, 12, 13, 14, 15, 16, 17, 18, 19, 20, 21, 22], [0, 22])])
def easementref17_Call.B10 : List Nat := [0, 0, 0, 4, 0, 28, 60, 124, 254, 510, 0, 0, 2048, 0, 14336, 30720, 63488, 130048, 261120, 0, 1048574, 2097150, 4194303, 8388607]
theorem easementref17_Call.tab10 : rtab .any (opsOf Try.f45 10) = easementref17_Call.T10 := by kernel_rfl
theorem easementref17_Call.bits10 : waitsOk easementref17_Call.T10.2 easementref17_Call.B10 = true := by kernel_rfl
def easementref17_Call.T15 : Bool × List (List Nat × List Nat) := (true, [([], []), ([], []), ([0, 1], [0, 1]), ([2], [2]), ([], []), ([], []), ([5], [5]), ([3, 4, 6], [3, 4, 6]), ([7], [7]), ([8], [8]), ([8], [8]), ([9, 7, 0, 1, 2, 3, 4, 5, 6, 7, 8, 9], [9]), ([10, 11, 0, 1, 2, 3, 4, 5, 6, 7, 8, 9, 10, 11], [10])])
def easementref17_Call.B15 : List Nat := [0, 0, 3, 7, 0, 0, 32, 127, 255, 511, 511, 1023, 4095]
theorem easementref17_Call.tab15 : rtab .any (opsOf Try.f45 15) = easementref17_Call.T15 := by kernel_rfl
theorem easementref17_Call.bits15 : waitsOk easementref17_Call.T15.2 easementref17_Call.B15 = true := by kernel_rfl
set_option maxHeartbeats 8000000 in
set_option maxRecDepth 100000 in
theorem easementref17_Call.calls (k : Nat) (a0_0 : Int) (A0_1 : Option Addr) (c0_1 : Nat) (l0_1 : List (S117)) (A0_2 : Option Addr) (c0_2 : Nat) (l0_2 : List (S44)) (A0_3 : Option Addr) (c0_3 : Nat) (l0_3 : List (S115)) (A1 : Option Addr) (c1 : Nat) (l1 : List Int) (A2 : Option Addr) (c2 : Nat) (l2 : List (S44)) (A3_0 : Option Addr) (c3_0 : Nat) (l3_0 : List (S115)) (r1 : List (S128)) (r2 : Int) (w : World) (hr0_1 : Kd.C k117 w A0_1 l0_1.length l0_1) (hc0_1 : l0_1.length ≤ c0_1) (hr0_2 : Kd.C k44 w A0_2 l0_2.length l0_2) (hc0_2 : l0_2.length ≤ c0_2) (hr0_3 : Kd.C k115 w A0_3 l0_3.length l0_3) (hc0_3 : l0_3.length ≤ c0_3) (hr1 : Kd.C (Kd.int .i64) w A1 l1.length l1) (hc1 : l1.length ≤ c1) (hr2 : Kd.C k44 w A2 l2.length l2) (hc2 : l2.length ≤ c2) (hr3_0 : Kd.C k115 w A3_0 l3_0.length l3_0) (hc3_0 : l3_0.length ≤ c3_0) (h : easementref17_Call.f k a0_0 l0_1 l0_2 l0_3 l1 l2 l3_0 = some (r1, r2)) :
  Calls Try.prog 45 #[.agg #[.int .i64 a0_0, .slice A0_1 l0_1.length c0_1, .slice A0_2 l0_2.length c0_2, .slice A0_3 l0_3.length c0_3], .slice A1 l1.length c1, .slice A2 l2.length c2, .agg #[.slice A3_0 l3_0.length c3_0]] w fun e w' => ∃ v0_ : Value, e = .returned (.tuple #[v0_, .int .i64 r2]) ∧ Kd.R k128 128 w' w.heap.size (fun _ => True) v0_ r1 ∧ Below w.heap.size w w' := by
 have hu52 := Try.underlying52
 have hu44 := Try.underlying44
 have hu128 := Try.underlying128
 have HR0_1 := Aside0.mk hr0_1
 have HC0_1 := Aside0.mk hc0_1
 clear hr0_1 hc0_1
 have HR0_2 := Aside0.mk hr0_2
 have HC0_2 := Aside0.mk hc0_2
 clear hr0_2 hc0_2
 have HR0_3 := Aside0.mk hr0_3
 have HC0_3 := Aside0.mk hc0_3
 clear hr0_3 hc0_3
 have HR1 := Aside0.mk hr1
 have HC1 := Aside0.mk hc1
 clear hr1 hc1
 have HR2 := Aside0.mk hr2
 have HC2 := Aside0.mk hc2
 clear hr2 hc2
 have HR3_0 := Aside0.mk hr3_0
 have HC3_0 := Aside0.mk hc3_0
 clear hr3_0 hc3_0
 have HB := Aside0.mk (Below.refl w.heap.size w)
 have H : ((easementref17_Check.f k a0_0 l0_1 l0_2 l0_3).bind fun t249 => (if t249 = 0 then (if (l1.length : Int) = a0_0 then (easementref17_Call.j0 k l1 l2 ((l2.length : Int) != (l0_2.length : Int)) a0_0 l0_1 l0_2 l0_3 l3_0) else (easementref17_Call.j0 k l1 l2 true a0_0 l0_1 l0_2 l0_3 l3_0)) else (some (([] : List (S128)), t249)))) = some (r1, r2) := h
 clear h
 replace H := Option.bind_eq_some_iff.mp H
 obtain ⟨t249, A50, H⟩ := H
 replace H : (if t249 = 0 then (if (l1.length : Int) = a0_0 then (easementref17_Call.j0 k l1 l2 ((l2.length : Int) != (l0_2.length : Int)) a0_0 l0_1 l0_2 l0_3 l3_0) else (easementref17_Call.j0 k l1 l2 true a0_0 l0_1 l0_2 l0_3 l3_0)) else (some (([] : List (S128)), t249))) = some (r1, r2) := H
 have A5 := Aside0.mk A50
 clear A50
 by_cases c6 : t249 = 0
 ·rw [if_pos c6] at H
  have c6b0 : (t249 == 0) = true := beq_iff_eq.mpr c6
  have c6b1 : (t249 != 0) = false := bne_eq_false_iff_eq.mpr c6
  clear c6
  have HC7 := Aside0.mk H
  clear H
  go_enter Try.func45, Try.ntmps45
  go_upto_region 4 with (first | ((with_reducible refine bZ (N := 4) rfl ?_); (try (refine cE (by rfl) ?_; dsimp only)); refine bY ?hg (N := 4) ?hd (cs := #[.int .i64 a0_0, .slice A0_1 l0_1.length c0_1, .slice A0_2 l0_2.length c0_2, .slice A0_3 l0_3.length c0_3]) (t := 52) ?hr ?_; (case hd => rfl); (case hg => rfl); (case hr => first | (go_simp; done) | (go_simp; rfl)); intro gb247 hg w8 hbox hb; have n0_ := Aside0.mk (bM (by repeat (first | (with_reducible first | exact HB.out | apply bC | apply bA | apply bB) | exact HB.out)) hb); have n1_ := Aside0.mk (hbox); have n2_ := Aside0.mk ((by rw [hg]; exact (bK (by repeat (first | (with_reducible first | exact HB.out | apply bC | apply bA | apply bB) | exact HB.out))) : w.heap.size ≤ gb247)); have n3_ := Aside0.mk ((by rw [hg]; exact (bK (by repeat (first | (with_reducible first | exact HB.out | apply bC | apply bA | apply bB) | exact HB.out))) : w.heap.size ≤ gb247)); clear HB; have HB := n0_; have BK247 := n1_; have GW247 := n2_; have GE247 := n3_; clear n0_ n1_ n2_ n3_; clear hb hbox hg) | ((with_reducible refine bZ (N := 7) rfl ?_); (try (refine cE (by rfl) ?_; dsimp only)); refine bY ?hg (N := 7) ?hd (cs := #[.slice A3_0 l3_0.length c3_0]) (t := 44) ?hr ?_; (case hd => rfl); (case hg => rfl); (case hr => first | (go_simp; done) | (go_simp; rfl)); intro gb248 hg w9 hbox hb; have n0_ := Aside0.mk (bL (g := gb247) (o := .cells #[.int .i64 a0_0, .slice A0_1 l0_1.length c0_1, .slice A0_2 l0_2.length c0_2, .slice A0_3 l0_3.length c0_3] 52 (0, 0)) (by (with_reducible repeat (first | refine bF ?_ _ | refine bG ?_ | refine bE ?_ _)); exact BK247.out) hb); have n1_ := Aside0.mk (bM (by repeat (first | (with_reducible first | exact HB.out | apply bC | apply bA | apply bB | refine bD ?_ GE247.out) | exact HB.out)) hb); have n2_ := Aside0.mk (hbox); have n3_ := Aside0.mk ((by rw [hg]; exact (bK (by repeat (first | (with_reducible first | exact HB.out | apply bC | apply bA | apply bB | refine bD ?_ GE247.out) | exact HB.out))) : w.heap.size ≤ gb248)); have n4_ := Aside0.mk ((by rw [hg]; exact (bK (by repeat (first | (with_reducible first | exact HB.out | apply bC | apply bA | apply bB | refine bD ?_ GE247.out) | exact HB.out))) : w.heap.size ≤ gb248)); have n5_ := Aside0.mk ((by rw [hg]; exact Nat.ne_of_lt (cD (g := gb247) (o := .cells #[.int .i64 a0_0, .slice A0_1 l0_1.length c0_1, .slice A0_2 l0_2.length c0_2, .slice A0_3 l0_3.length c0_3] 52 (0, 0)) (by (with_reducible repeat (first | refine bF ?_ _ | refine bG ?_ | refine bE ?_ _)); exact BK247.out)) : gb247 ≠ gb248)); have n6_ := Aside0.mk ((by rw [hg]; exact Nat.ne_of_gt (cD (g := gb247) (o := .cells #[.int .i64 a0_0, .slice A0_1 l0_1.length c0_1, .slice A0_2 l0_2.length c0_2, .slice A0_3 l0_3.length c0_3] 52 (0, 0)) (by (with_reducible repeat (first | refine bF ?_ _ | refine bG ?_ | refine bE ?_ _)); exact BK247.out)) : gb248 ≠ gb247)); clear BK247; clear HB; have BK247 := n0_; have HB := n1_; have BK248 := n2_; have GW248 := n3_; have GE248 := n4_; have NB247_248 := n5_; have NB248_247 := n6_; clear n0_ n1_ n2_ n3_ n4_ n5_ n6_; clear hb hbox hg; have hnb10 := NB247_248.out; have hnc10 := NB248_247.out; have hcz11_0 : w9.cell? ⟨gb247, 0, none⟩ = some (.int .i64 a0_0) := (bH BK247.out 0).trans rfl; have hcz11_1 : w9.cell? ⟨gb247, 1, none⟩ = some (.slice A0_1 l0_1.length c0_1) := (bH BK247.out 1).trans rfl; have hcz11_2 : w9.cell? ⟨gb247, 2, none⟩ = some (.slice A0_2 l0_2.length c0_2) := (bH BK247.out 2).trans rfl; have hcz11_3 : w9.cell? ⟨gb247, 3, none⟩ = some (.slice A0_3 l0_3.length c0_3) := (bH BK247.out 3).trans rfl; have hfz11_0 := bJ BK247.out 0; have hfz11_1 := bJ BK247.out 1; have hfz11_2 := bJ BK247.out 2; have hfz11_3 := bJ BK247.out 3) | ((with_reducible refine cB (f := 47) rfl ?_); refine goesL_ (some 23) rfl rfl Try.func47 (by kernel_rfl) rfl #[.agg #[.int .i64 a0_0, .slice A0_1 l0_1.length c0_1, .slice A0_2 l0_2.length c0_2, .slice A0_3 l0_3.length c0_3]] rfl (by (try simp only [List.map_toArray, List.map_cons, List.map_nil]); first | done | rfl | (simp only [List.length_drop, List.length_take]; rfl)) ?_; (with_reducible refine (easementref17_Check.calls k a0_0 _ _ l0_1 _ _ l0_2 _ _ l0_3 t249 _ ?side1 ?side2 ?side3 ?side4 ?side5 ?side6 A5.out).mono ?_); (case side1 => repeat (first | exact (Kd.bW HR0_1.out HB.out) | (with_reducible refine Kd.bV ?_ _) | (with_reducible refine Kd.bU ?_ _) | (with_reducible refine Kd.cA ?_))); (case side2 => exact HC0_1.out); (case side3 => repeat (first | exact (Kd.bW HR0_2.out HB.out) | (with_reducible refine Kd.bV ?_ _) | (with_reducible refine Kd.bU ?_ _) | (with_reducible refine Kd.cA ?_))); (case side4 => exact HC0_2.out); (case side5 => repeat (first | exact (Kd.bW HR0_3.out HB.out) | (with_reducible refine Kd.bV ?_ _) | (with_reducible refine Kd.bU ?_ _) | (with_reducible refine Kd.cA ?_))); (case side6 => exact HC0_3.out); rintro e w12 ⟨rfl, hb⟩; refine ⟨_, rfl, ?_⟩; have n0_ := Aside0.mk (bL (g := gb247) (o := .cells #[.int .i64 a0_0, .slice A0_1 l0_1.length c0_1, .slice A0_2 l0_2.length c0_2, .slice A0_3 l0_3.length c0_3] 52 (0, 0)) (by (with_reducible repeat (first | refine bF ?_ _ | refine bG ?_ | refine bE ?_ _)); exact BK247.out) hb); have n1_ := Aside0.mk (bL (g := gb248) (o := .cells #[.slice A3_0 l3_0.length c3_0] 44 (0, 0)) (by (with_reducible repeat (first | refine bF ?_ _ | refine bG ?_ | refine bE ?_ _)); exact BK248.out) hb); have n2_ := Aside0.mk (bM (by repeat (first | (with_reducible first | exact HB.out | apply bC | apply bA | apply bB | refine bD ?_ GE247.out | refine bD ?_ GE248.out) | exact HB.out)) hb); clear BK247; clear BK248; clear HB; have BK247 := n0_; have BK248 := n1_; have HB := n2_; clear n0_ n1_ n2_; (try clear hb); (try clear hb2); (try clear hk); (try clear hi)))
  (try simp only [Act.put, sZ1, sZ2, sZ3])
  go_cut [39] (fun v39 wc => ∃ (kq : Nat) (x39_6 : Bool), v39 = .bool x39_6 ∧ Aside0 (easementref17_Call.j0 kq l1 l2 x39_6 a0_0 l0_1 l0_2 l0_3 l3_0 = some (r1, r2)) ∧ Aside0 (kq ≤ k) ∧ Aside0 (wc.heap[gb247]? = some (.cells #[.int .i64 a0_0, (.slice A0_1 l0_1.length c0_1), (.slice A0_2 l0_2.length c0_2), (.slice A0_3 l0_3.length c0_3)] 52 (0, 0))) ∧ Aside0 (wc.heap[gb248]? = some (.cells #[(.slice A3_0 l3_0.length c3_0)] 44 (0, 0))) ∧ Aside0 (Below w.heap.size w wc))
  case first =>
   have H := HC7.out
   clear HC7
   by_cases c13 : (l1.length : Int) = a0_0
   ·rw [if_pos c13] at H
    have c13b0 : ((l1.length : Int) == a0_0) = true := beq_iff_eq.mpr c13
    have c13b1 : ((l1.length : Int) != a0_0) = false := bne_eq_false_iff_eq.mpr c13
    clear c13
    (first | rw [c13b0] | (simp only [bN, bP]; rw [c13b0]) | skip)
    have H' := Aside0.mk H
    clear H
    have hnb14 := NB247_248.out
    have hnc14 := NB248_247.out
    have hcz15_0 : w12.cell? ⟨gb247, 0, none⟩ = some (.int .i64 a0_0) := (bH BK247.out 0).trans rfl
    have hcz15_1 : w12.cell? ⟨gb247, 1, none⟩ = some (.slice A0_1 l0_1.length c0_1) := (bH BK247.out 1).trans rfl
    have hcz15_2 : w12.cell? ⟨gb247, 2, none⟩ = some (.slice A0_2 l0_2.length c0_2) := (bH BK247.out 2).trans rfl
    have hcz15_3 : w12.cell? ⟨gb247, 3, none⟩ = some (.slice A0_3 l0_3.length c0_3) := (bH BK247.out 3).trans rfl
    have hfz15_0 := bJ BK247.out 0
    have hfz15_1 := bJ BK247.out 1
    have hfz15_2 := bJ BK247.out 2
    have hfz15_3 := bJ BK247.out 3
    go_wp2
    go_meet
    case rel => exact ⟨_, (((l2.length : Int) != (l0_2.length : Int))), (by first | rfl | (simp; done) | (simp [*]; done)), H', ⟨by first | omega | exact Nat.le_refl _⟩, ⟨by (with_reducible repeat (first | refine bF ?_ _ | refine bG ?_ | refine bE ?_ _)); exact BK247.out⟩, ⟨by (with_reducible repeat (first | refine bF ?_ _ | refine bG ?_ | refine bE ?_ _)); exact BK248.out⟩, ⟨by repeat (first | (with_reducible first | exact HB.out | apply bC | apply bA | apply bB | refine bD ?_ GE247.out | refine bD ?_ GE248.out) | exact HB.out)⟩⟩
   ·rw [if_neg c13] at H
    have c13b0 : ((l1.length : Int) == a0_0) = false := beq_eq_false_iff_ne.mpr c13
    have c13b1 : ((l1.length : Int) != a0_0) = true := bne_iff_ne.mpr c13
    (first | rw [c13b0] | (simp only [bN, bP]; rw [c13b0]) | skip)
    have H' := Aside0.mk H
    clear H
    have hnb16 := NB247_248.out
    have hnc16 := NB248_247.out
    have hcz17_0 : w12.cell? ⟨gb247, 0, none⟩ = some (.int .i64 a0_0) := (bH BK247.out 0).trans rfl
    have hcz17_1 : w12.cell? ⟨gb247, 1, none⟩ = some (.slice A0_1 l0_1.length c0_1) := (bH BK247.out 1).trans rfl
    have hcz17_2 : w12.cell? ⟨gb247, 2, none⟩ = some (.slice A0_2 l0_2.length c0_2) := (bH BK247.out 2).trans rfl
    have hcz17_3 : w12.cell? ⟨gb247, 3, none⟩ = some (.slice A0_3 l0_3.length c0_3) := (bH BK247.out 3).trans rfl
    have hfz17_0 := bJ BK247.out 0
    have hfz17_1 := bJ BK247.out 1
    have hfz17_2 := bJ BK247.out 2
    have hfz17_3 := bJ BK247.out 3
    go_wp2
    go_meet
    case rel => exact ⟨_, (true), (by first | rfl | (simp; done) | (simp [*]; done)), H', ⟨by first | omega | exact Nat.le_refl _⟩, ⟨by (with_reducible repeat (first | refine bF ?_ _ | refine bG ?_ | refine bE ?_ _)); exact BK247.out⟩, ⟨by (with_reducible repeat (first | refine bF ?_ _ | refine bG ?_ | refine bE ?_ _)); exact BK248.out⟩, ⟨by repeat (first | (with_reducible first | exact HB.out | apply bC | apply bA | apply bB | refine bD ?_ GE247.out | refine bD ?_ GE248.out) | exact HB.out)⟩⟩
  case rest =>
   clear HC7
   try clear c1
   try clear c2
   try clear p2
   try clear c3
   try clear c4
   try clear c6
   try clear c6b0
   try clear c6b1
   try clear c10
   try clear c13
   try clear c13b0
   try clear c13b1
   try clear c14
   try clear c16
   try clear hcz11_0
   try clear hcz11_1
   try clear hcz11_2
   try clear hcz11_3
   try clear hcz15_0
   try clear hcz15_1
   try clear hcz15_2
   try clear hcz15_3
   try clear hcz17_0
   try clear hcz17_1
   try clear hcz17_2
   try clear hcz17_3
   try clear hfz11_0
   try clear hfz11_1
   try clear hfz11_2
   try clear hfz11_3
   try clear hfz15_0
   try clear hfz15_1
   try clear hfz15_2
   try clear hfz15_3
   try clear hfz17_0
   try clear hfz17_1
   try clear hfz17_2
   try clear hfz17_3
   obtain ⟨kq, x39_6, rfl, HA, HJ6, BK247, BK248, HB⟩ := hcut
   cases kq with
   | zero => exact absurd HA.out (by simp [easementref17_Call.j0])
   | succ kj6 =>
    have H := HA.out
    clear HA
    simp only [easementref17_Call.j0] at H
    by_cases c18 : x39_6 = true
    ·subst c18
     have H1 : (some (([] : List (S128)), 2)) = some (r1, r2) := by rw [if_pos rfl] at H; exact H
     clear H
     have H := H1
     clear H1
     simp only [Option.some.injEq, Prod.mk.injEq] at H
     obtain ⟨rfl, rfl⟩ := H
     go_wp2
     go_ret2
     exact ⟨_, by first | rfl | (simp [errW_none, errW_some] <;> rfl) | (simp [*, errW_none, errW_some] <;> rfl), by first | exact Kd.R_nil _ _ _ _ _ | exact Kd.N_nil _ _ _ _ _ | exact Kd.V_nil _ _ _ _ _ | exact Kd.Q_nil _ _ _ _ _ | exact Kd.S_nil _ _ _ _ _, by repeat (first | (with_reducible first | exact HB.out | apply bC | apply bA | apply bB | refine bD ?_ GE247.out | refine bD ?_ GE248.out) | exact HB.out)⟩
    ·replace c18 := Bool.eq_false_iff.mpr c18
     subst c18
     have H1 : (easementref17_Call.l0 kj6 l1 l2 (([] : List (S128))) 0 a0_0 l0_1 l0_2 l0_3 l3_0) = some (r1, r2) := by rw [if_neg (show ¬ (false = true) by decide)] at H; exact H
     clear H
     have H := H1
     clear H1
     obtain ⟨y250, hy250⟩ : ∃ y_ : List (S128), y_ = (([] : List (S128))) := ⟨_, rfl⟩
     replace H : (easementref17_Call.l0 kj6 l1 l2 y250 0 a0_0 l0_1 l0_2 l0_3 l3_0) = some (r1, r2) := by first | (rw [hy250]; with_reducible exact H) | (have H2_ := (Option.bind_some _ _).symm.trans H; rw [hy250]; with_reducible exact H2_) | (have H2_ := (Option.bind_some _ _).symm.trans H; with_reducible exact H2_) | with_reducible exact H | (rw [hy250]; exact H) | exact H
     have Ny250 := Aside0.mk hy250
     clear hy250
     have H' := Aside0.mk H
     clear H
     go_wp2_with (first | ((with_reducible refine bZ (N := 40) rfl ?_); (try (refine cE (by rfl) ?_; dsimp only)); refine Kd.R_lit k128 _ 128 ?hg (N := 40) ?hd (xs := ([] : List (S128))) (inner := []) (ok := fun _ => True) (okp := fun _ => True) ?hr ?hp (fun _ hk => hk) trivial (Below.refl _ _) (Nat.le_refl _) (by simp) ?_; (case hd => rfl); (case hg => rfl); (case hr => first | (go_simp; done) | (go_simp; rfl)); (case hp => exact (Reps.none _ _)); intro v251 w19 ho20 hb hg_ hnew_; clear hg_ hnew_; (first | rw [← Ny250.out] at ho20 | (simp only [Int.reduceToNat] at ho20; rw [← Ny250.out] at ho20)); have n0_ := Aside0.mk (Kd.R_lower ho20 (bK (by repeat (first | (with_reducible first | exact HB.out | apply bC | apply bA | apply bB | refine bD ?_ GE247.out | refine bD ?_ GE248.out) | exact HB.out)))); have n1_ := Aside0.mk (bL (g := gb247) (o := .cells #[.int .i64 a0_0, .slice A0_1 l0_1.length c0_1, .slice A0_2 l0_2.length c0_2, .slice A0_3 l0_3.length c0_3] 52 (0, 0)) (by (with_reducible repeat (first | refine bF ?_ _ | refine bG ?_ | refine bE ?_ _)); exact BK247.out) hb); have n2_ := Aside0.mk (bL (g := gb248) (o := .cells #[.slice A3_0 l3_0.length c3_0] 44 (0, 0)) (by (with_reducible repeat (first | refine bF ?_ _ | refine bG ?_ | refine bE ?_ _)); exact BK248.out) hb); have n3_ := Aside0.mk (bM (by repeat (first | (with_reducible first | exact HB.out | apply bC | apply bA | apply bB | refine bD ?_ GE247.out | refine bD ?_ GE248.out) | exact HB.out)) hb); clear BK247; clear BK248; clear HB; have HO252 := n0_; have BK247 := n1_; have BK248 := n2_; have HB := n3_; clear n0_ n1_ n2_ n3_; clear hb ho20))
     go_loopg [11, 12] kj6 (fun kq v11 v12 w' => ∃ (x11_2 : List (S128)) (x12_2 : Int), v12 = .int .i64 x12_2 ∧ Aside0 (easementref17_Call.l0 kq l1 l2 x11_2 x12_2 a0_0 l0_1 l0_2 l0_3 l3_0 = some (r1, r2)) ∧ Aside0 (kq ≤ kj6) ∧ Aside0 (Kd.R k128 128 w' w.heap.size (fun _ => True) v11 x11_2) ∧ Aside0 (w'.heap[gb247]? = some (.cells #[.int .i64 a0_0, (.slice A0_1 l0_1.length c0_1), (.slice A0_2 l0_2.length c0_2), (.slice A0_3 l0_3.length c0_3)] 52 (0, 0))) ∧ Aside0 (w'.heap[gb248]? = some (.cells #[(.slice A3_0 l3_0.length c3_0)] 44 (0, 0))) ∧ Aside0 (Below w.heap.size w w'))
     case atStart => exact ⟨(y250), (0), (by first | rfl | (simp; done) | (simp [*]; done)), H', ⟨Nat.le_refl _⟩, ⟨by (with_reducible repeat (first | apply Kd.bR | apply Kd.bQ | apply Kd.bT)); exact HO252.out⟩, ⟨by (with_reducible repeat (first | refine bF ?_ _ | refine bG ?_ | refine bE ?_ _)); exact BK247.out⟩, ⟨by (with_reducible repeat (first | refine bF ?_ _ | refine bG ?_ | refine bE ?_ _)); exact BK248.out⟩, ⟨by repeat (first | (with_reducible first | exact HB.out | apply bC | apply bA | apply bB | refine bD ?_ GE247.out | refine bD ?_ GE248.out) | exact HB.out)⟩⟩
     case round =>
      clear H'
      try clear c1
      try clear c2
      try clear p2
      try clear c3
      try clear c4
      try clear c6
      try clear c6b0
      try clear c6b1
      try clear c10
      try clear c13
      try clear c13b0
      try clear c13b1
      try clear c14
      try clear c16
      try clear c18
      try clear hcz11_0
      try clear hcz11_1
      try clear hcz11_2
      try clear hcz11_3
      try clear hcz15_0
      try clear hcz15_1
      try clear hcz15_2
      try clear hcz15_3
      try clear hcz17_0
      try clear hcz17_1
      try clear hcz17_2
      try clear hcz17_3
      try clear hfz11_0
      try clear hfz11_1
      try clear hfz11_2
      try clear hfz11_3
      try clear hfz15_0
      try clear hfz15_1
      try clear hfz15_2
      try clear hfz15_3
      try clear hfz17_0
      try clear hfz17_1
      try clear hfz17_2
      try clear hfz17_3
      try clear p2
      obtain ⟨x11_2, x12_2, rfl, HA, HK2, HO_11, BK247, BK248, HB⟩ := hrel
      cases gk with
      | zero => exact absurd HA.out (by simp [easementref17_Call.l0])
      | succ k2 =>
       have H := HA.out
       clear HA
       simp only [easementref17_Call.l0] at H
       by_cases c21 : x12_2 < (l0_1.length : Int)
       ·rw [if_pos c21] at H
        have c21b0 : decide (x12_2 < (l0_1.length : Int)) = true := decide_eq_true c21
        clear c21
        by_cases c22 : 0 ≤ x12_2
        ·rw [if_pos c22] at H
         have c22b0 : decide (0 ≤ x12_2) = true := decide_eq_true c22
         clear c22
         by_cases c23 : 0 ≤ ((rd_T117 l0_1 x12_2).f0)
         ·rw [if_pos c23] at H
          have c23b0 : decide (0 ≤ ((rd_T117 l0_1 x12_2).f0)) = true := decide_eq_true c23
          clear c23
          by_cases c24 : ((rd_T117 l0_1 x12_2).f0) < (l1.length : Int)
          ·rw [if_pos c24] at H
           have c24b0 : decide (((rd_T117 l0_1 x12_2).f0) < (l1.length : Int)) = true := decide_eq_true c24
           clear c24
           by_cases c25 : 0 ≤ ((rd_T117 l0_1 x12_2).f1)
           ·rw [if_pos c25] at H
            have c25b0 : decide (0 ≤ ((rd_T117 l0_1 x12_2).f1)) = true := decide_eq_true c25
            clear c25
            by_cases c26 : ((rd_T117 l0_1 x12_2).f1) < (l1.length : Int)
            ·rw [if_pos c26] at H
             have c26b0 : decide (((rd_T117 l0_1 x12_2).f1) < (l1.length : Int)) = true := decide_eq_true c26
             clear c26
             by_cases c27 : x11_2.length < 3518437208883
             ·rw [if_pos c27] at H
              have LMc27 := Aside0.mk c27
              clear c27
              obtain ⟨y257, hy257⟩ : ∃ y_ : List (S128), y_ = (x11_2 ++ [(⟨rd l1 ((rd_T117 l0_1 x12_2).f0), rd l1 ((rd_T117 l0_1 x12_2).f1), 4, x12_2, false⟩ : S128)]) := ⟨_, rfl⟩
              replace H : (easementref17_Call.l0 k2 l1 l2 y257 (wrap64 (x12_2 + 1)) a0_0 l0_1 l0_2 l0_3 l3_0) = some (r1, r2) := by first | (rw [hy257]; with_reducible exact H) | (have H2_ := (Option.bind_some _ _).symm.trans H; rw [hy257]; with_reducible exact H2_) | (have H2_ := (Option.bind_some _ _).symm.trans H; with_reducible exact H2_) | with_reducible exact H | (rw [hy257]; exact H) | exact H
              have Ny257 := Aside0.mk hy257
              clear hy257
              have H' := Aside0.mk H
              clear H
              have hnb28 := NB247_248.out
              have hnc28 := NB248_247.out
              have hcz29_0 : wr.cell? ⟨gb247, 0, none⟩ = some (.int .i64 a0_0) := (bH BK247.out 0).trans rfl
              have hcz29_1 : wr.cell? ⟨gb247, 1, none⟩ = some (.slice A0_1 l0_1.length c0_1) := (bH BK247.out 1).trans rfl
              have hcz29_2 : wr.cell? ⟨gb247, 2, none⟩ = some (.slice A0_2 l0_2.length c0_2) := (bH BK247.out 2).trans rfl
              have hcz29_3 : wr.cell? ⟨gb247, 3, none⟩ = some (.slice A0_3 l0_3.length c0_3) := (bH BK247.out 3).trans rfl
              have hfz29_0 := bJ BK247.out 0
              have hfz29_1 := bJ BK247.out 1
              have hfz29_2 := bJ BK247.out 2
              have hfz29_3 := bJ BK247.out 3
              try go_wp2
              have n0_ := Aside0.mk (Kd.bT HO_11.out)
              have n1_ := Aside0.mk (bG BK247.out)
              have n2_ := Aside0.mk (bG BK248.out)
              have n3_ := Aside0.mk (bB HB.out)
              clear HO_11
              clear BK247
              clear BK248
              clear HB
              have HO_11 := n0_
              have BK247 := n1_
              have BK248 := n2_
              have HB := n3_
              clear n0_ n1_ n2_ n3_
              have p253 : 0 ≤ (x12_2 : Int) := of_decide_eq_true (by first | (with_reducible assumption) | assumption)
              have q253 : x12_2 < (l0_1.length : Int) := of_decide_eq_true (by first | (with_reducible assumption) | assumption)
              obtain ⟨ad253, e253, hx253_0, hx253_1⟩ := at_T117 HR0_1.out x12_2 p253 q253
              have hw253_1 := hx253_1
              have hw253_0 := hx253_0
              cases e253
              replace hx253_0 := (HB.out.cell (World.block_lt_of_cell? w _ hx253_0)).trans hx253_0
              replace hx253_1 := (HB.out.cell (World.block_lt_of_cell? w _ hx253_1)).trans hx253_1
              replace p253 := eq_true p253
              replace q253 := eq_true q253
              have p254 : 0 ≤ (((rd_T117 l0_1 x12_2).f0) : Int) := of_decide_eq_true (by first | (with_reducible assumption) | assumption)
              have q254 : ((rd_T117 l0_1 x12_2).f0) < (l1.length : Int) := of_decide_eq_true (by first | (with_reducible assumption) | assumption)
              obtain ⟨ad254, e254, hx254_0⟩ := Kd.at_int HR1.out ((rd_T117 l0_1 x12_2).f0) p254 q254
              have hw254_0 := hx254_0
              cases e254
              replace hx254_0 := (HB.out.cell (World.block_lt_of_cell? w _ hx254_0)).trans hx254_0
              replace p254 := eq_true p254
              replace q254 := eq_true q254
              have p255 : 0 ≤ (x12_2 : Int) := of_decide_eq_true (by first | (with_reducible assumption) | assumption)
              have q255 : x12_2 < (l0_1.length : Int) := of_decide_eq_true (by first | (with_reducible assumption) | assumption)
              obtain ⟨ad255, e255, hx255_0, hx255_1⟩ := at_T117 HR0_1.out x12_2 p255 q255
              have hw255_1 := hx255_1
              have hw255_0 := hx255_0
              obtain rfl : ad253 = ad255 := (by injection e255)
              replace hx255_0 := (HB.out.cell (World.block_lt_of_cell? w _ hx255_0)).trans hx255_0
              replace hx255_1 := (HB.out.cell (World.block_lt_of_cell? w _ hx255_1)).trans hx255_1
              replace p255 := eq_true p255
              replace q255 := eq_true q255
              have p256 : 0 ≤ (((rd_T117 l0_1 x12_2).f1) : Int) := of_decide_eq_true (by first | (with_reducible assumption) | assumption)
              have q256 : ((rd_T117 l0_1 x12_2).f1) < (l1.length : Int) := of_decide_eq_true (by first | (with_reducible assumption) | assumption)
              obtain ⟨ad256, e256, hx256_0⟩ := Kd.at_int HR1.out ((rd_T117 l0_1 x12_2).f1) p256 q256
              have hw256_0 := hx256_0
              obtain rfl : ad254 = ad256 := (by injection e256)
              replace hx256_0 := (HB.out.cell (World.block_lt_of_cell? w _ hx256_0)).trans hx256_0
              replace p256 := eq_true p256
              replace q256 := eq_true q256
              refine start_ (n := 24) (S := fun w' => w'.cell? ⟨gb247, 0, none⟩ = some (.int .i64 a0_0) ∧ w'.cell? ⟨gb247, 1, none⟩ = some (.slice (some ad253) l0_1.length c0_1) ∧ w'.cell? ⟨gb247, 2, none⟩ = some (.slice A0_2 l0_2.length c0_2) ∧ w'.cell? ⟨gb247, 3, none⟩ = some (.slice A0_3 l0_3.length c0_3) ∧ w'.cell? (ad253.add ((x12_2).toNat * 2)) = some (.int .i64 ((rd_T117 l0_1 x12_2).f0)) ∧ w'.cell? ⟨(ad253.add ((x12_2).toNat * 2)).block, (ad253.add ((x12_2).toNat * 2)).off + 1, none⟩ = some (.int .i64 ((rd_T117 l0_1 x12_2).f1)) ∧ w'.cell? (ad254.add (((rd_T117 l0_1 x12_2).f0)).toNat) = some (.int .i64 (rd l1 ((rd_T117 l0_1 x12_2).f0))) ∧ w'.cell? (ad253.add ((x12_2).toNat * 2)) = some (.int .i64 ((rd_T117 l0_1 x12_2).f0)) ∧ w'.cell? ⟨(ad253.add ((x12_2).toNat * 2)).block, (ad253.add ((x12_2).toNat * 2)).off + 1, none⟩ = some (.int .i64 ((rd_T117 l0_1 x12_2).f1)) ∧ w'.cell? (ad254.add (((rd_T117 l0_1 x12_2).f1)).toNat) = some (.int .i64 (rd l1 ((rd_T117 l0_1 x12_2).f1)))) (ds := []) #[false, false, false, false, false, false, false, false, false, false, false, false, false, false, false, false, false, false, false, false, false, false, false, false] (by kernel_rfl) rfl rfl ⟨(bH BK247.out 0).trans rfl, (bH BK247.out 1).trans rfl, (bH BK247.out 2).trans rfl, (bH BK247.out 3).trans rfl, ((HB.out.cell (World.block_lt_of_cell? w _ hw253_0)).trans hw253_0), ((HB.out.cell (World.block_lt_of_cell? w _ hw253_1)).trans hw253_1), ((HB.out.cell (World.block_lt_of_cell? w _ hw254_0)).trans hw254_0), ((HB.out.cell (World.block_lt_of_cell? w _ hw255_0)).trans hw255_0), ((HB.out.cell (World.block_lt_of_cell? w _ hw255_1)).trans hw255_1), ((HB.out.cell (World.block_lt_of_cell? w _ hw256_0)).trans hw256_0)⟩ (fun hHeld => ?_); refine with_tabW easementref17_Call.tab10 easementref17_Call.bits10 (fun HT_ HW_ => ?_)
              generalize wr.drew = w30 at HO_11 BK247 BK248 HB hx253_0 hx253_1 hx254_0 hx255_0 hx255_1 hx256_0 hHeld ⊢
              refine bX (i := 0) (N := some 48) (v := ?_) (a' := ?_) #[true, false, false, false, false, false, false, false, false, false, false, false, false, false, false, false, false, false, false, false, false, false, false, false] rfl rfl (bS HT_.out (by kernel_rfl)) (fun _ _ _ h => h) (Or.inl ⟨by rfl, ?_⟩) ?_ ?_
              rotate_left
              ·intro w'
               go_simp
               with_reducible rfl
              rotate_left
              ·simp only [Act.put, sZ1, sZ2, sZ3, bN, bP]
               rfl
              refine bX (i := 1) (N := some 49) (v := ?_) (a' := ?_) #[true, true, false, false, false, false, false, false, false, false, false, false, false, false, false, false, false, false, false, false, false, false, false, false] rfl rfl (bS HT_.out (by kernel_rfl)) (fun _ _ _ h => h) (Or.inl ⟨by rfl, ?_⟩) ?_ ?_
              rotate_left
              ·intro w'
               go_simp
               with_reducible rfl
              rotate_left
              ·simp only [Act.put, sZ1, sZ2, sZ3, bN, bP]
               rfl
              refine bX (i := 2) (N := some 50) (v := ?_) (a' := ?_) #[true, true, true, false, false, false, false, false, false, false, false, false, false, false, false, false, false, false, false, false, false, false, false, false] rfl rfl (bS HT_.out (by kernel_rfl)) (fun _ _ _ h => h) (Or.inl ⟨by rfl, ?_⟩) ?_ ?_
              rotate_left
              ·intro w'
               go_simp
               with_reducible rfl
              rotate_left
              ·simp only [Act.put, sZ1, sZ2, sZ3, bN, bP]
               rfl
              refine bX (i := 4) (N := some 52) (v := ?_) (a' := ?_) #[true, true, true, false, true, false, false, false, false, false, false, false, false, false, false, false, false, false, false, false, false, false, false, false] rfl rfl (bS HT_.out (by kernel_rfl)) (fun _ _ _ h => h) (Or.inl ⟨by rfl, ?_⟩) ?_ ?_
              rotate_left
              ·intro w'
               go_simp
               with_reducible rfl
              rotate_left
              ·simp only [Act.put, sZ1, sZ2, sZ3, bN, bP]
               rfl
              refine bX (i := 10) (N := some 58) (v := ?_) (a' := ?_) #[true, true, true, false, true, false, false, false, false, false, true, false, false, false, false, false, false, false, false, false, false, false, false, false] rfl rfl (bS HT_.out (by kernel_rfl)) (fun _ _ _ h => h) (Or.inl ⟨by rfl, ?_⟩) ?_ ?_
              rotate_left
              ·intro w'
               go_simp
               with_reducible rfl
              rotate_left
              ·simp only [Act.put, sZ1, sZ2, sZ3, bN, bP]
               rfl
              refine bX (i := 11) (N := some 59) (v := ?_) (a' := ?_) #[true, true, true, false, true, false, false, false, false, false, true, true, false, false, false, false, false, false, false, false, false, false, false, false] rfl rfl (bS HT_.out (by kernel_rfl)) (fun _ _ _ h => h) (Or.inl ⟨by rfl, ?_⟩) ?_ ?_
              rotate_left
              ·intro w'
               go_simp
               with_reducible rfl
              rotate_left
              ·simp only [Act.put, sZ1, sZ2, sZ3, bN, bP]
               rfl
              refine bX (i := 13) (N := some 61) (v := ?_) (a' := ?_) #[true, true, true, false, true, false, false, false, false, false, true, true, false, true, false, false, false, false, false, false, false, false, false, false] rfl rfl (bS HT_.out (by kernel_rfl)) (fun _ _ _ h => h) (Or.inl ⟨by rfl, ?_⟩) ?_ ?_
              rotate_left
              ·intro w'
               go_simp
               with_reducible rfl
              rotate_left
              ·simp only [Act.put, sZ1, sZ2, sZ3, bN, bP]
               rfl
              refine bX (i := 19) (N := some 67) (v := ?_) (a' := ?_) #[true, true, true, false, true, false, false, false, false, false, true, true, false, true, false, false, false, false, false, true, false, false, false, false] rfl rfl (bS HT_.out (by kernel_rfl)) (fun _ _ _ h => h) (Or.inl ⟨by rfl, ?_⟩) ?_ ?_
              rotate_left
              ·intro w'
               go_simp
               with_reducible rfl
              rotate_left
              ·simp only [Act.put, sZ1, sZ2, sZ3, bN, bP]
               rfl
              refine take_ (i := 3) (N := some 51) (v := ?_) (a' := ?_) #[true, true, true, true, true, false, false, false, false, false, true, true, false, true, false, false, false, false, false, true, false, false, false, false] rfl rfl (take_ofW HT_.out HW_.out (by kernel_rfl)) (fun _ _ _ h => h) (Or.inl ⟨by rfl, ?_⟩) hHeld ?_ ?_
              rotate_left
              ·rintro w' ⟨s0, s1, s2, s3, s4, s5, s6, s7, s8, s9⟩
               go_simp
               with_reducible rfl
              rotate_left
              ·simp only [Act.put, sZ1, sZ2, sZ3, bN, bP]
               rfl
              refine bX (i := 5) (N := some 53) (v := ?_) (a' := ?_) #[true, true, true, true, true, true, false, false, false, false, true, true, false, true, false, false, false, false, false, true, false, false, false, false] rfl rfl (bS HT_.out (by kernel_rfl)) (fun _ _ _ h => h) (Or.inl ⟨by rfl, ?_⟩) ?_ ?_
              rotate_left
              ·intro w'
               go_simp
               with_reducible rfl
              rotate_left
              ·simp only [Act.put, sZ1, sZ2, sZ3, bN, bP]
               rfl
              refine bX (i := 6) (N := some 54) (v := ?_) (a' := ?_) #[true, true, true, true, true, true, true, false, false, false, true, true, false, true, false, false, false, false, false, true, false, false, false, false] rfl rfl (bS HT_.out (by kernel_rfl)) (fun _ _ _ h => h) (Or.inl ⟨by rfl, ?_⟩) ?_ ?_
              rotate_left
              ·intro w'
               go_simp
               with_reducible rfl
              rotate_left
              ·simp only [Act.put, sZ1, sZ2, sZ3, bN, bP]
               rfl
              refine take_ (i := 7) (N := some 55) (v := ?_) (a' := ?_) #[true, true, true, true, true, true, true, true, false, false, true, true, false, true, false, false, false, false, false, true, false, false, false, false] rfl rfl (take_ofW HT_.out HW_.out (by kernel_rfl)) (fun _ _ _ h => h) (Or.inl ⟨by rfl, ?_⟩) hHeld ?_ ?_
              rotate_left
              ·rintro w' ⟨s0, s1, s2, s3, s4, s5, s6, s7, s8, s9⟩
               go_simp
               with_reducible rfl
              rotate_left
              ·simp only [Act.put, sZ1, sZ2, sZ3, bN, bP]
               rfl
              refine bX (i := 8) (N := some 56) (v := ?_) (a' := ?_) #[true, true, true, true, true, true, true, true, true, false, true, true, false, true, false, false, false, false, false, true, false, false, false, false] rfl rfl (bS HT_.out (by kernel_rfl)) (fun _ _ _ h => h) (Or.inl ⟨by rfl, ?_⟩) ?_ ?_
              rotate_left
              ·intro w'
               go_simp
               with_reducible rfl
              rotate_left
              ·simp only [Act.put, sZ1, sZ2, sZ3, bN, bP]
               rfl
              refine take_ (i := 9) (N := some 57) (v := ?_) (a' := ?_) #[true, true, true, true, true, true, true, true, true, true, true, true, false, true, false, false, false, false, false, true, false, false, false, false] rfl rfl (take_ofW HT_.out HW_.out (by kernel_rfl)) (fun _ _ _ h => h) (Or.inl ⟨by rfl, ?_⟩) hHeld ?_ ?_
              rotate_left
              ·rintro w' ⟨s0, s1, s2, s3, s4, s5, s6, s7, s8, s9⟩
               go_simp
               with_reducible rfl
              rotate_left
              ·simp only [Act.put, sZ1, sZ2, sZ3, bN, bP]
               rfl
              refine take_ (i := 12) (N := some 60) (v := ?_) (a' := ?_) #[true, true, true, true, true, true, true, true, true, true, true, true, true, true, false, false, false, false, false, true, false, false, false, false] rfl rfl (take_ofW HT_.out HW_.out (by kernel_rfl)) (fun _ _ _ h => h) (Or.inl ⟨by rfl, ?_⟩) hHeld ?_ ?_
              rotate_left
              ·rintro w' ⟨s0, s1, s2, s3, s4, s5, s6, s7, s8, s9⟩
               go_simp
               with_reducible rfl
              rotate_left
              ·simp only [Act.put, sZ1, sZ2, sZ3, bN, bP]
               rfl
              refine bX (i := 14) (N := some 62) (v := ?_) (a' := ?_) #[true, true, true, true, true, true, true, true, true, true, true, true, true, true, true, false, false, false, false, true, false, false, false, false] rfl rfl (bS HT_.out (by kernel_rfl)) (fun _ _ _ h => h) (Or.inl ⟨by rfl, ?_⟩) ?_ ?_
              rotate_left
              ·intro w'
               go_simp
               with_reducible rfl
              rotate_left
              ·simp only [Act.put, sZ1, sZ2, sZ3, bN, bP]
               rfl
              refine bX (i := 15) (N := some 63) (v := ?_) (a' := ?_) #[true, true, true, true, true, true, true, true, true, true, true, true, true, true, true, true, false, false, false, true, false, false, false, false] rfl rfl (bS HT_.out (by kernel_rfl)) (fun _ _ _ h => h) (Or.inl ⟨by rfl, ?_⟩) ?_ ?_
              rotate_left
              ·intro w'
               go_simp
               with_reducible rfl
              rotate_left
              ·simp only [Act.put, sZ1, sZ2, sZ3, bN, bP]
               rfl
              refine take_ (i := 16) (N := some 64) (v := ?_) (a' := ?_) #[true, true, true, true, true, true, true, true, true, true, true, true, true, true, true, true, true, false, false, true, false, false, false, false] rfl rfl (take_ofW HT_.out HW_.out (by kernel_rfl)) (fun _ _ _ h => h) (Or.inl ⟨by rfl, ?_⟩) hHeld ?_ ?_
              rotate_left
              ·rintro w' ⟨s0, s1, s2, s3, s4, s5, s6, s7, s8, s9⟩
               go_simp
               with_reducible rfl
              rotate_left
              ·simp only [Act.put, sZ1, sZ2, sZ3, bN, bP]
               rfl
              refine bX (i := 17) (N := some 65) (v := ?_) (a' := ?_) #[true, true, true, true, true, true, true, true, true, true, true, true, true, true, true, true, true, true, false, true, false, false, false, false] rfl rfl (bS HT_.out (by kernel_rfl)) (fun _ _ _ h => h) (Or.inl ⟨by rfl, ?_⟩) ?_ ?_
              rotate_left
              ·intro w'
               go_simp
               with_reducible rfl
              rotate_left
              ·simp only [Act.put, sZ1, sZ2, sZ3, bN, bP]
               rfl
              refine take_ (i := 18) (N := some 66) (v := ?_) (a' := ?_) #[true, true, true, true, true, true, true, true, true, true, true, true, true, true, true, true, true, true, true, true, false, false, false, false] rfl rfl (take_ofW HT_.out HW_.out (by kernel_rfl)) (fun _ _ _ h => h) (Or.inl ⟨by rfl, ?_⟩) hHeld ?_ ?_
              rotate_left
              ·rintro w' ⟨s0, s1, s2, s3, s4, s5, s6, s7, s8, s9⟩
               go_simp
               with_reducible rfl
              rotate_left
              ·simp only [Act.put, sZ1, sZ2, sZ3, bN, bP]
               rfl
              refine bX (i := 20) (N := some 68) (v := ?_) (a' := ?_) #[true, true, true, true, true, true, true, true, true, true, true, true, true, true, true, true, true, true, true, true, true, false, false, false] rfl rfl (bS HT_.out (by kernel_rfl)) (fun _ _ _ h => h) (Or.inl ⟨by rfl, ?_⟩) ?_ ?_
              rotate_left
              ·intro w'
               go_simp
               with_reducible rfl
              rotate_left
              ·simp only [Act.put, sZ1, sZ2, sZ3, bN, bP]
               rfl
              refine one_ (i := 21) (N := some 69) #[true, true, true, true, true, true, true, true, true, true, true, true, true, true, true, true, true, true, true, true, true, true, false, false] rfl rfl (one_of HT_.out (by kernel_rfl)) (by decide) (fun K hK => ?_)
              refine value_ (w1 := ?_) (v := ?_) (by rfl) rfl ?_ ?_
              rotate_left 2
              ·go_simp
               constructor
               ·rfl
               ·rfl
              refine hK.out _ _ ⟨(bH (bE BK247.out _) 0).trans rfl, (bH (bE BK247.out _) 1).trans rfl, (bH (bE BK247.out _) 2).trans rfl, (bH (bE BK247.out _) 3).trans rfl, (World.cell?_alloc_lt _ _ _ (World.block_lt_of_cell? _ _ (((HB.out.cell (World.block_lt_of_cell? w _ hw253_0)).trans hw253_0)))).trans (((HB.out.cell (World.block_lt_of_cell? w _ hw253_0)).trans hw253_0)), (World.cell?_alloc_lt _ _ _ (World.block_lt_of_cell? _ _ (((HB.out.cell (World.block_lt_of_cell? w _ hw253_1)).trans hw253_1)))).trans (((HB.out.cell (World.block_lt_of_cell? w _ hw253_1)).trans hw253_1)), (World.cell?_alloc_lt _ _ _ (World.block_lt_of_cell? _ _ (((HB.out.cell (World.block_lt_of_cell? w _ hw254_0)).trans hw254_0)))).trans (((HB.out.cell (World.block_lt_of_cell? w _ hw254_0)).trans hw254_0)), (World.cell?_alloc_lt _ _ _ (World.block_lt_of_cell? _ _ (((HB.out.cell (World.block_lt_of_cell? w _ hw255_0)).trans hw255_0)))).trans (((HB.out.cell (World.block_lt_of_cell? w _ hw255_0)).trans hw255_0)), (World.cell?_alloc_lt _ _ _ (World.block_lt_of_cell? _ _ (((HB.out.cell (World.block_lt_of_cell? w _ hw255_1)).trans hw255_1)))).trans (((HB.out.cell (World.block_lt_of_cell? w _ hw255_1)).trans hw255_1)), (World.cell?_alloc_lt _ _ _ (World.block_lt_of_cell? _ _ (((HB.out.cell (World.block_lt_of_cell? w _ hw256_0)).trans hw256_0)))).trans (((HB.out.cell (World.block_lt_of_cell? w _ hw256_0)).trans hw256_0))⟩ (fun hHeld => ?_)
              clear hK K
              refine norm_ (a' := ?_) ?_ ?_
              rotate_left
              ·show Act.put _ (some 69) _ = _
               simp only [Act.put, sZ1, sZ2, sZ3, bN, bP]
               rfl
              refine one_ (i := 22) (N := some 70) #[true, true, true, true, true, true, true, true, true, true, true, true, true, true, true, true, true, true, true, true, true, true, true, false] rfl rfl (one_of HT_.out (by kernel_rfl)) (by decide) (fun K hK => ?_)
              refine Kd.R_append_step k128 (w0 := w) w.heap.size (by rfl) (.tmp 48) (.tmp 69) 63 128 (.agg #[(.int .i64 0), (.int .i64 0), (.int .i64 0), (.int .i64 0), (.bool false)]) 40 rfl Try.underlying63 info128 rfl (by decide) (by omega) u11 x11_2 (⟨rd l1 ((rd_T117 l0_1 x12_2).f0), rd l1 ((rd_T117 l0_1 x12_2).f1), 4, x12_2, false⟩ : S128) [.int .i64 (rd l1 ((rd_T117 l0_1 x12_2).f0)), .int .i64 (rd l1 ((rd_T117 l0_1 x12_2).f1)), .int .i64 4, .int .i64 x12_2, .bool false] (fun _ => True) (fun _ => False) rfl rfl ?aP (fun _ hk => hk.elim) ?aF ?aO ?aB ?aS ?aL ?_
              (case aP => exact k128_mkM _ _ _ (⟨rd l1 ((rd_T117 l0_1 x12_2).f0), rd l1 ((rd_T117 l0_1 x12_2).f1), 4, x12_2, false⟩ : S128))
              (case aB => exact (by repeat (first | (with_reducible first | exact HB.out | apply bC | apply bA | apply bB | refine bD ?_ GE247.out | refine bD ?_ GE248.out) | exact HB.out)))
              (case aF => exact (fun _ _ => trivial))
              (case aO => exact (by (with_reducible repeat (first | apply Kd.bR | apply Kd.bQ | apply Kd.bT)); exact HO_11.out))
              (case aS => exact (bK (by repeat (first | (with_reducible first | exact HB.out | apply bC | apply bA | apply bB | refine bD ?_ GE247.out | refine bD ?_ GE248.out) | exact HB.out))))
              (case aL => have := LMc27.out; omega)
              intro v258 w31 ho hb hg hat
              rw [← Ny257.out] at ho
              have n0_ := Aside0.mk (blk_grown (g := gb247) (o := .cells #[.int .i64 a0_0, .slice (some ad253) l0_1.length c0_1, .slice A0_2 l0_2.length c0_2, .slice A0_3 l0_3.length c0_3] 52 (0, 0)) (by (with_reducible repeat (first | refine bF ?_ _ | refine bG ?_ | refine bE ?_ _)); exact BK247.out) hg (Kd.R_ne HO_11.out BK247.out (by decide)))
              have n1_ := Aside0.mk (blk_grown (g := gb248) (o := .cells #[.slice A3_0 l3_0.length c3_0] 44 (0, 0)) (by (with_reducible repeat (first | refine bF ?_ _ | refine bG ?_ | refine bE ?_ _)); exact BK248.out) hg (Kd.R_ne HO_11.out BK248.out (by decide)))
              have n2_ := Aside0.mk (hb)
              have n3_ := Aside0.mk (ho)
              clear BK247
              clear BK248
              clear HB
              clear HO_11
              have BK247 := n0_
              have BK248 := n1_
              have HB := n2_
              have HO259 := n3_
              clear n0_ n1_ n2_ n3_
              clear ho hb hg hat
              refine hK.out _ _ ⟨(bH BK247.out 0).trans rfl, (bH BK247.out 1).trans rfl, (bH BK247.out 2).trans rfl, (bH BK247.out 3).trans rfl, ((HB.out.cell (World.block_lt_of_cell? w _ hw253_0)).trans hw253_0), ((HB.out.cell (World.block_lt_of_cell? w _ hw253_1)).trans hw253_1), ((HB.out.cell (World.block_lt_of_cell? w _ hw254_0)).trans hw254_0), ((HB.out.cell (World.block_lt_of_cell? w _ hw255_0)).trans hw255_0), ((HB.out.cell (World.block_lt_of_cell? w _ hw255_1)).trans hw255_1), ((HB.out.cell (World.block_lt_of_cell? w _ hw256_0)).trans hw256_0)⟩ (fun hHeld => ?_)
              clear hK K
              refine norm_ (a' := ?_) ?_ ?_
              rotate_left
              ·show Act.put _ (some 70) _ = _
               simp only [Act.put, sZ1, sZ2, sZ3, bN, bP]
               rfl
              refine bX (i := 23) (N := some 11) (v := ?_) (a' := ?_) #[true, true, true, true, true, true, true, true, true, true, true, true, true, true, true, true, true, true, true, true, true, true, true, true] rfl rfl (bS HT_.out (by kernel_rfl)) (fun _ _ _ h => h) (Or.inl ⟨by rfl, ?_⟩) ?_ ?_
              rotate_left
              ·intro w'
               go_simp
               with_reducible rfl
              rotate_left
              ·simp only [Act.put, sZ1, sZ2, sZ3, bN, bP]
               rfl
              refine done_ (done_of HT_.out (by kernel_rfl)) ?_
              try go_wp2
              go_roundg k2
              case measure => have := HJ6.out; have := HK2.out; omega
              case rel => exact ⟨(y257), (wrap64 (x12_2 + 1)), (by first | rfl | (simp; done) | (simp [*]; done)), H', ⟨by have := HJ6.out; have := HK2.out; omega⟩, ⟨by (with_reducible repeat (first | apply Kd.bR | apply Kd.bQ | apply Kd.bT)); exact HO259.out⟩, ⟨by (with_reducible repeat (first | refine bF ?_ _ | refine bG ?_ | refine bE ?_ _)); exact BK247.out⟩, ⟨by (with_reducible repeat (first | refine bF ?_ _ | refine bG ?_ | refine bE ?_ _)); exact BK248.out⟩, ⟨by repeat (first | (with_reducible first | exact HB.out | apply bC | apply bA | apply bB | refine bD ?_ GE247.out | refine bD ?_ GE248.out) | exact HB.out)⟩⟩
             ·rw [if_neg c27] at H
              exact absurd H (by simp)
            ·rw [if_neg c26] at H
             exact absurd H (by simp)
           ·rw [if_neg c25] at H
            exact absurd H (by simp)
          ·rw [if_neg c24] at H
           exact absurd H (by simp)
         ·rw [if_neg c23] at H
          exact absurd H (by simp)
        ·rw [if_neg c22] at H
         exact absurd H (by simp)
       ·rw [if_neg c21] at H
        have c21b0 : decide (x12_2 < (l0_1.length : Int)) = false := decide_eq_false c21
        clear c21
        have H' := Aside0.mk H
        clear H
        have hnb32 := NB247_248.out
        have hnc32 := NB248_247.out
        have hcz33_0 : wr.cell? ⟨gb247, 0, none⟩ = some (.int .i64 a0_0) := (bH BK247.out 0).trans rfl
        have hcz33_1 : wr.cell? ⟨gb247, 1, none⟩ = some (.slice A0_1 l0_1.length c0_1) := (bH BK247.out 1).trans rfl
        have hcz33_2 : wr.cell? ⟨gb247, 2, none⟩ = some (.slice A0_2 l0_2.length c0_2) := (bH BK247.out 2).trans rfl
        have hcz33_3 : wr.cell? ⟨gb247, 3, none⟩ = some (.slice A0_3 l0_3.length c0_3) := (bH BK247.out 3).trans rfl
        have hfz33_0 := bJ BK247.out 0
        have hfz33_1 := bJ BK247.out 1
        have hfz33_2 := bJ BK247.out 2
        have hfz33_3 := bJ BK247.out 3
        go_wp2
        go_loopg [11, 13] k2 (fun kq v11 v13 w' => ∃ (x11_3 : List (S128)) (x13_3 : Int), v13 = .int .i64 x13_3 ∧ Aside0 (easementref17_Call.l1 kq l1 l2 x11_3 x13_3 a0_0 l0_1 l0_2 l0_3 l3_0 = some (r1, r2)) ∧ Aside0 (kq ≤ k2) ∧ Aside0 (Kd.R k128 128 w' w.heap.size (fun _ => True) v11 x11_3) ∧ Aside0 (w'.heap[gb247]? = some (.cells #[.int .i64 a0_0, (.slice A0_1 l0_1.length c0_1), (.slice A0_2 l0_2.length c0_2), (.slice A0_3 l0_3.length c0_3)] 52 (0, 0))) ∧ Aside0 (w'.heap[gb248]? = some (.cells #[(.slice A3_0 l3_0.length c3_0)] 44 (0, 0))) ∧ Aside0 (Below w.heap.size w w'))
        case atStart => exact ⟨(x11_2), (0), (by first | rfl | (simp; done) | (simp [*]; done)), H', ⟨Nat.le_refl _⟩, ⟨by (with_reducible repeat (first | apply Kd.bR | apply Kd.bQ | apply Kd.bT)); exact HO_11.out⟩, ⟨by (with_reducible repeat (first | refine bF ?_ _ | refine bG ?_ | refine bE ?_ _)); exact BK247.out⟩, ⟨by (with_reducible repeat (first | refine bF ?_ _ | refine bG ?_ | refine bE ?_ _)); exact BK248.out⟩, ⟨by repeat (first | (with_reducible first | exact HB.out | apply bC | apply bA | apply bB | refine bD ?_ GE247.out | refine bD ?_ GE248.out) | exact HB.out)⟩⟩
        case round =>
         clear H'
         try clear c1
         try clear c2
         try clear p2
         try clear q2
         try clear hx2
         try clear c3
         try clear c4
         try clear c6
         try clear c6b0
         try clear c6b1
         try clear p6
         try clear c10
         try clear c13
         try clear c13b0
         try clear c13b1
         try clear c14
         try clear c16
         try clear c18
         try clear c21
         try clear c21b0
         try clear c22
         try clear c22b0
         try clear c23
         try clear c23b0
         try clear c24
         try clear c24b0
         try clear c25
         try clear c25b0
         try clear p25
         try clear q25
         try clear hx25
         try clear c26
         try clear c26b0
         try clear c27
         try clear c28
         try clear c32
         try clear hcz11_0
         try clear hcz11_1
         try clear hcz11_2
         try clear hcz11_3
         try clear hcz15_0
         try clear hcz15_1
         try clear hcz15_2
         try clear hcz15_3
         try clear hcz17_0
         try clear hcz17_1
         try clear hcz17_2
         try clear hcz17_3
         try clear hcz29_0
         try clear hcz29_1
         try clear hcz29_2
         try clear hcz29_3
         try clear hcz33_0
         try clear hcz33_1
         try clear hcz33_2
         try clear hcz33_3
         try clear hfz11_0
         try clear hfz11_1
         try clear hfz11_2
         try clear hfz11_3
         try clear hfz15_0
         try clear hfz15_1
         try clear hfz15_2
         try clear hfz15_3
         try clear hfz17_0
         try clear hfz17_1
         try clear hfz17_2
         try clear hfz17_3
         try clear hfz29_0
         try clear hfz29_1
         try clear hfz29_2
         try clear hfz29_3
         try clear hfz33_0
         try clear hfz33_1
         try clear hfz33_2
         try clear hfz33_3
         try clear hx253_0
         try clear hx253_1
         try clear hx254_0
         try clear hx255_0
         try clear hx255_1
         try clear hx256_0
         try clear p2
         try clear p253
         try clear p254
         try clear p255
         try clear p256
         try clear q253
         try clear q254
         try clear q255
         try clear q256
         obtain ⟨x11_3, x13_3, rfl, HA, HK3, HO_11, BK247, BK248, HB⟩ := hrel
         cases gk with
         | zero => exact absurd HA.out (by simp [easementref17_Call.l1])
         | succ k3 =>
          have H := HA.out
          clear HA
          simp only [easementref17_Call.l1] at H
          by_cases c34 : x13_3 < (l0_2.length : Int)
          ·rw [if_pos c34] at H
           have c34b0 : decide (x13_3 < (l0_2.length : Int)) = true := decide_eq_true c34
           clear c34
           by_cases c35 : 0 ≤ x13_3
           ·rw [if_pos c35] at H
            have c35b0 : decide (0 ≤ x13_3) = true := decide_eq_true c35
            clear c35
            replace H := Option.bind_eq_some_iff.mp H
            obtain ⟨⟨t261, t264⟩, A360, H⟩ := H
            replace H : (if x13_3 < (l2.length : Int) then ((easementref16_Flow.f k3 ((rd_T44 l2 x13_3).f0) t261 5 (wrap64 (16 * x13_3))).bind fun bt267 => (if bt267.2 = 0 then (if x11_3.length + bt267.1.length < 3518437208883 then (easementref17_Call.l1 k3 l1 l2 (x11_3 ++ bt267.1) (wrap64 (x13_3 + 1)) a0_0 l0_1 l0_2 l0_3 l3_0) else (none)) else (some (([] : List (S128)), bt267.2)))) else (none)) = some (r1, r2) := H
            have A36 := Aside0.mk A360
            clear A360
            by_cases c37 : x13_3 < (l2.length : Int)
            ·rw [if_pos c37] at H
             have c37b0 : decide (x13_3 < (l2.length : Int)) = true := decide_eq_true c37
             clear c37
             replace H := Option.bind_eq_some_iff.mp H
             obtain ⟨⟨t267, t270⟩, A380, H⟩ := H
             replace H : (if t270 = 0 then (if x11_3.length + t267.length < 3518437208883 then (easementref17_Call.l1 k3 l1 l2 (x11_3 ++ t267) (wrap64 (x13_3 + 1)) a0_0 l0_1 l0_2 l0_3 l3_0) else (none)) else (some (([] : List (S128)), t270))) = some (r1, r2) := H
             have A38 := Aside0.mk A380
             clear A380
             by_cases c39 : t270 = 0
             ·rw [if_pos c39] at H
              have c39b0 : (t270 == 0) = true := beq_iff_eq.mpr c39
              have c39b1 : (t270 != 0) = false := bne_eq_false_iff_eq.mpr c39
              clear c39
              by_cases c40 : x11_3.length + t267.length < 3518437208883
              ·rw [if_pos c40] at H
               have LMc40 := Aside0.mk c40
               clear c40
               obtain ⟨y271, hy271⟩ : ∃ y_ : List (S128), y_ = (x11_3 ++ t267) := ⟨_, rfl⟩
               replace H : (easementref17_Call.l1 k3 l1 l2 y271 (wrap64 (x13_3 + 1)) a0_0 l0_1 l0_2 l0_3 l3_0) = some (r1, r2) := by first | (rw [hy271]; with_reducible exact H) | (have H2_ := (Option.bind_some _ _).symm.trans H; rw [hy271]; with_reducible exact H2_) | (have H2_ := (Option.bind_some _ _).symm.trans H; with_reducible exact H2_) | with_reducible exact H | (rw [hy271]; exact H) | exact H
               have Ny271 := Aside0.mk hy271
               clear hy271
               have H' := Aside0.mk H
               clear H
               have hnb41 := NB247_248.out
               have hnc41 := NB248_247.out
               have hcz42_0 : wr.cell? ⟨gb247, 0, none⟩ = some (.int .i64 a0_0) := (bH BK247.out 0).trans rfl
               have hcz42_1 : wr.cell? ⟨gb247, 1, none⟩ = some (.slice A0_1 l0_1.length c0_1) := (bH BK247.out 1).trans rfl
               have hcz42_2 : wr.cell? ⟨gb247, 2, none⟩ = some (.slice A0_2 l0_2.length c0_2) := (bH BK247.out 2).trans rfl
               have hcz42_3 : wr.cell? ⟨gb247, 3, none⟩ = some (.slice A0_3 l0_3.length c0_3) := (bH BK247.out 3).trans rfl
               have hfz42_0 := bJ BK247.out 0
               have hfz42_1 := bJ BK247.out 1
               have hfz42_2 := bJ BK247.out 2
               have hfz42_3 := bJ BK247.out 3
               have p260 : 0 ≤ (x13_3 : Int) := of_decide_eq_true (by first | (with_reducible assumption) | assumption)
               have q260 : x13_3 < (l0_2.length : Int) := of_decide_eq_true (by first | (with_reducible assumption) | assumption)
               obtain ⟨ad260, A260_0, c260_0, e260, hx260_0, hl260_0, hi260_0⟩ := at_T44 HR0_2.out x13_3 p260 q260
               cases e260
               replace hx260_0 := (HB.out.cell (World.block_lt_of_cell? w _ hx260_0)).trans hx260_0
               have HR260_0 := Aside0.mk hi260_0
               have HC260_0 := Aside0.mk hl260_0
               clear hi260_0 hl260_0
               replace p260 := eq_true p260
               replace q260 := eq_true q260
               try go_wp2_with (first | ((with_reducible refine cB (f := 93) rfl ?_); refine goesL_ (some 85) rfl rfl Try.func93 (by kernel_rfl) rfl #[.agg #[.slice A260_0 ((rd_T44 l0_2 x13_3).f0).length c260_0], .slice A1 l1.length c1] rfl (by (try simp only [List.map_toArray, List.map_cons, List.map_nil]); first | done | rfl | (simp only [List.length_drop, List.length_take]; rfl)) ?_; (with_reducible refine (easementref15_Subst.calls k3 _ _ ((rd_T44 l0_2 x13_3).f0) _ _ l1 t261 t264 _ ?side1 ?side2 ?side3 ?side4 A36.out).mono ?_); (case side1 => repeat (first | exact (Kd.bW HR260_0.out HB.out) | (with_reducible refine Kd.bV ?_ _) | (with_reducible refine Kd.bU ?_ _) | (with_reducible refine Kd.cA ?_))); (case side2 => exact HC260_0.out); (case side3 => repeat (first | exact (Kd.bW HR1.out HB.out) | (with_reducible refine Kd.bV ?_ _) | (with_reducible refine Kd.bU ?_ _) | (with_reducible refine Kd.cA ?_))); (case side4 => exact HC1.out); rintro e w43 ⟨v262, rfl, ho0, hb⟩; refine ⟨_, rfl, ?_⟩; have n0_ := Aside0.mk (Kd.cC (by (with_reducible repeat (first | apply Kd.bR | apply Kd.bQ | apply Kd.bT)); exact HO_11.out) hb); have n1_ := Aside0.mk (Kd.R_lower ho0 (bK (by repeat (first | (with_reducible first | exact HB.out | apply bC | apply bA | apply bB | refine bD ?_ GE247.out | refine bD ?_ GE248.out) | exact HB.out)))); have n2_ := Aside0.mk (bL (g := gb247) (o := .cells #[.int .i64 a0_0, .slice A0_1 l0_1.length c0_1, .slice (some ad260) l0_2.length c0_2, .slice A0_3 l0_3.length c0_3] 52 (0, 0)) (by (with_reducible repeat (first | refine bF ?_ _ | refine bG ?_ | refine bE ?_ _)); exact BK247.out) hb); have n3_ := Aside0.mk (bL (g := gb248) (o := .cells #[.slice A3_0 l3_0.length c3_0] 44 (0, 0)) (by (with_reducible repeat (first | refine bF ?_ _ | refine bG ?_ | refine bE ?_ _)); exact BK248.out) hb); have n4_ := Aside0.mk (bM (by repeat (first | (with_reducible first | exact HB.out | apply bC | apply bA | apply bB | refine bD ?_ GE247.out | refine bD ?_ GE248.out) | exact HB.out)) hb); clear HO_11; clear BK247; clear BK248; clear HB; have HO_11 := n0_; have HO263 := n1_; have BK247 := n2_; have BK248 := n3_; have HB := n4_; clear n0_ n1_ n2_ n3_ n4_; (try clear hb); (try clear hb2); (try clear hk); (try clear hi); (try clear ho0)) | ((with_reducible refine bZ (N := 14) rfl ?_); (try (refine cE (by rfl) ?_; dsimp only)); refine bY ?hg (N := 14) ?hd (cs := #[.slice none 0 0]) (t := 44) ?hr ?_; (case hd => rfl); (case hg => rfl); (case hr => first | (go_simp; done) | (go_simp; rfl)); intro gb265 hg w44 hbox hb; have n0_ := Aside0.mk (Kd.cC (by (with_reducible repeat (first | apply Kd.bR | apply Kd.bQ | apply Kd.bT)); exact HO_11.out) hb); have n1_ := Aside0.mk (Kd.cC (by (with_reducible repeat (first | apply Kd.bR | apply Kd.bQ | apply Kd.bT)); exact HO263.out) hb); have n2_ := Aside0.mk (bL (g := gb247) (o := .cells #[.int .i64 a0_0, .slice A0_1 l0_1.length c0_1, .slice (some ad260) l0_2.length c0_2, .slice A0_3 l0_3.length c0_3] 52 (0, 0)) (by (with_reducible repeat (first | refine bF ?_ _ | refine bG ?_ | refine bE ?_ _)); exact BK247.out) hb); have n3_ := Aside0.mk (bL (g := gb248) (o := .cells #[.slice A3_0 l3_0.length c3_0] 44 (0, 0)) (by (with_reducible repeat (first | refine bF ?_ _ | refine bG ?_ | refine bE ?_ _)); exact BK248.out) hb); have n4_ := Aside0.mk (bM (by repeat (first | (with_reducible first | exact HB.out | apply bC | apply bA | apply bB | refine bD ?_ GE247.out | refine bD ?_ GE248.out) | exact HB.out)) hb); have n5_ := Aside0.mk (hbox); have n6_ := Aside0.mk ((by rw [hg]; exact (bK (by repeat (first | (with_reducible first | exact HB.out | apply bC | apply bA | apply bB | refine bD ?_ GE247.out | refine bD ?_ GE248.out) | exact HB.out))) : w.heap.size ≤ gb265)); have n7_ := Aside0.mk ((by rw [hg]; exact (bK (by repeat (first | (with_reducible first | exact HB.out | apply bC | apply bA | apply bB | refine bD ?_ GE247.out | refine bD ?_ GE248.out) | exact HB.out))) : w.heap.size ≤ gb265)); have n8_ := Aside0.mk ((by rw [hg]; exact Nat.ne_of_lt (cD (g := gb247) (o := .cells #[.int .i64 a0_0, .slice A0_1 l0_1.length c0_1, .slice (some ad260) l0_2.length c0_2, .slice A0_3 l0_3.length c0_3] 52 (0, 0)) (by (with_reducible repeat (first | refine bF ?_ _ | refine bG ?_ | refine bE ?_ _)); exact BK247.out)) : gb247 ≠ gb265)); have n9_ := Aside0.mk ((by rw [hg]; exact Nat.ne_of_gt (cD (g := gb247) (o := .cells #[.int .i64 a0_0, .slice A0_1 l0_1.length c0_1, .slice (some ad260) l0_2.length c0_2, .slice A0_3 l0_3.length c0_3] 52 (0, 0)) (by (with_reducible repeat (first | refine bF ?_ _ | refine bG ?_ | refine bE ?_ _)); exact BK247.out)) : gb265 ≠ gb247)); have n10_ := Aside0.mk ((by rw [hg]; exact Nat.ne_of_lt (cD (g := gb248) (o := .cells #[.slice A3_0 l3_0.length c3_0] 44 (0, 0)) (by (with_reducible repeat (first | refine bF ?_ _ | refine bG ?_ | refine bE ?_ _)); exact BK248.out)) : gb248 ≠ gb265)); have n11_ := Aside0.mk ((by rw [hg]; exact Nat.ne_of_gt (cD (g := gb248) (o := .cells #[.slice A3_0 l3_0.length c3_0] 44 (0, 0)) (by (with_reducible repeat (first | refine bF ?_ _ | refine bG ?_ | refine bE ?_ _)); exact BK248.out)) : gb265 ≠ gb248)); clear HO_11; clear HO263; clear BK247; clear BK248; clear HB; have HO_11 := n0_; have HO263 := n1_; have BK247 := n2_; have BK248 := n3_; have HB := n4_; have BK265 := n5_; have GW265 := n6_; have GE265 := n7_; have NB247_265 := n8_; have NB265_247 := n9_; have NB248_265 := n10_; have NB265_248 := n11_; clear n0_ n1_ n2_ n3_ n4_ n5_ n6_ n7_ n8_ n9_ n10_ n11_; clear hb hbox hg; obtain ⟨Ao45, co45, eo45⟩ := Kd.R_slice HO263.out; subst eo45; have hnb46 := NB265_247.out; have hnc46 := NB247_265.out; have hnb47 := NB265_248.out; have hnc47 := NB248_265.out; have hcz48_0 : w44.cell? ⟨gb265, 0, none⟩ = some (.slice none 0 0) := (bH BK265.out 0).trans rfl; have hfz48_0 := bJ BK265.out 0))
               have n0_ : Aside0 (Kd.R k128 128 (w44.setCell ⟨gb265, 0, none⟩ (.slice Ao45 t261.length co45)) w.heap.size (fun _ => True) u11 x11_3) := ⟨by (with_reducible repeat (first | apply Kd.bR | apply Kd.bQ | apply Kd.bT)); exact Kd.R_mono (Kd.R_far (p := ⟨gb265, 0, none⟩) (Kd.R_types HO_11.out BK265.out (by decide)) (fun _ hk => hk.2) (.slice Ao45 t261.length co45)) (fun _ hk => trivial)⟩
               have n1_ : Aside0 (Kd.R k115 115 (w44.setCell ⟨gb265, 0, none⟩ (.slice Ao45 t261.length co45)) w.heap.size (fun _ => True) (.slice Ao45 t261.length co45) t261) := ⟨by (with_reducible repeat (first | apply Kd.bR | apply Kd.bQ | apply Kd.bT)); exact Kd.R_mono (Kd.R_far (p := ⟨gb265, 0, none⟩) (Kd.R_types HO263.out BK265.out (by decide)) (fun _ hk => hk.2) (.slice Ao45 t261.length co45)) (fun _ hk => trivial)⟩
               have n2_ : Aside0 ((w44.setCell ⟨gb265, 0, none⟩ (.slice Ao45 t261.length co45)).heap[gb247]? = some (.cells #[.int .i64 a0_0, .slice A0_1 l0_1.length c0_1, .slice (some ad260) l0_2.length c0_2, .slice A0_3 l0_3.length c0_3] 52 (0, 0))) := ⟨by (with_reducible repeat (first | refine bF ?_ _ | refine bG ?_ | refine bE ?_ _)); refine blk_far ?_ NB247_265.out _; (with_reducible repeat (first | refine bF ?_ _ | refine bG ?_ | refine bE ?_ _)); exact BK247.out⟩
               have n3_ : Aside0 ((w44.setCell ⟨gb265, 0, none⟩ (.slice Ao45 t261.length co45)).heap[gb248]? = some (.cells #[.slice A3_0 l3_0.length c3_0] 44 (0, 0))) := ⟨by (with_reducible repeat (first | refine bF ?_ _ | refine bG ?_ | refine bE ?_ _)); refine blk_far ?_ NB248_265.out _; (with_reducible repeat (first | refine bF ?_ _ | refine bG ?_ | refine bE ?_ _)); exact BK248.out⟩
               have n4_ : Aside0 ((w44.setCell ⟨gb265, 0, none⟩ (.slice Ao45 t261.length co45)).heap[gb265]? = some (.cells #[.slice Ao45 t261.length co45] 44 (0, 0))) := ⟨by (with_reducible repeat (first | refine bF ?_ _ | refine bG ?_ | refine bE ?_ _)); refine blk_put (cs := #[.slice none 0 0]) ?_ 0 _ rfl; (with_reducible repeat (first | refine bF ?_ _ | refine bG ?_ | refine bE ?_ _)); exact BK265.out⟩
               have n5_ : Aside0 (Below w.heap.size w (w44.setCell ⟨gb265, 0, none⟩ (.slice Ao45 t261.length co45))) := ⟨by repeat (first | (with_reducible first | exact HB.out | apply bC | apply bA | apply bB | refine bD ?_ GE247.out | refine bD ?_ GE248.out | refine bD ?_ GE265.out) | exact HB.out)⟩
               (try clear HO_11)
               (try clear HO263)
               (try clear BK247)
               (try clear BK248)
               (try clear BK265)
               (try clear HB)
               generalize (w44.setCell ⟨gb265, 0, none⟩ (.slice Ao45 t261.length co45)) = w49 at n0_ n1_ n2_ n3_ n4_ n5_ ⊢
               have HO_11 := n0_
               have HO263 := n1_
               have BK247 := n2_
               have BK248 := n3_
               have BK265 := n4_
               have HB := n5_
               clear n0_ n1_ n2_ n3_ n4_ n5_
               have n0_ := Aside0.mk (Kd.bT HO_11.out)
               have n1_ := Aside0.mk (Kd.bT HO263.out)
               have n2_ := Aside0.mk (bG BK247.out)
               have n3_ := Aside0.mk (bG BK248.out)
               have n4_ := Aside0.mk (bG BK265.out)
               have n5_ := Aside0.mk (bB HB.out)
               clear HO_11
               clear HO263
               clear BK247
               clear BK248
               clear BK265
               clear HB
               have HO_11 := n0_
               have HO263 := n1_
               have BK247 := n2_
               have BK248 := n3_
               have BK265 := n4_
               have HB := n5_
               clear n0_ n1_ n2_ n3_ n4_ n5_
               have p266 : 0 ≤ (x13_3 : Int) := of_decide_eq_true (by first | (with_reducible assumption) | assumption)
               have q266 : x13_3 < (l2.length : Int) := of_decide_eq_true (by first | (with_reducible assumption) | assumption)
               obtain ⟨ad266, A266_0, c266_0, e266, hx266_0, hl266_0, hi266_0⟩ := at_T44 HR2.out x13_3 p266 q266
               have hw266_0 := hx266_0
               cases e266
               replace hx266_0 := (HB.out.cell (World.block_lt_of_cell? w _ hx266_0)).trans hx266_0
               have HR266_0 := Aside0.mk hi266_0
               have HC266_0 := Aside0.mk hl266_0
               clear hi266_0 hl266_0
               replace p266 := eq_true p266
               replace q266 := eq_true q266
               refine start_ (n := 13) (S := fun w' => w'.cell? ⟨gb265, 0, none⟩ = some (.slice Ao45 t261.length co45) ∧ w'.cell? (ad266.add (x13_3).toNat) = some (.slice A266_0 ((rd_T44 l2 x13_3).f0).length c266_0)) (ds := []) #[false, false, false, false, false, false, false, false, false, false, false, false, false] (by kernel_rfl) rfl rfl ⟨(bH BK265.out 0).trans rfl, ((HB.out.cell (World.block_lt_of_cell? w _ hw266_0)).trans hw266_0)⟩ (fun hHeld => ?_); refine with_tabW easementref17_Call.tab15 easementref17_Call.bits15 (fun HT_ HW_ => ?_)
               generalize w49.drew = w50 at HO_11 HO263 BK247 BK248 BK265 HB HR266_0 hx266_0 hHeld ⊢
               refine bX (i := 0) (N := some 89) (v := ?_) (a' := ?_) #[true, false, false, false, false, false, false, false, false, false, false, false, false] rfl rfl (bS HT_.out (by kernel_rfl)) (fun _ _ _ h => h) (Or.inl ⟨by rfl, ?_⟩) ?_ ?_
               rotate_left
               ·intro w'
                go_simp
                with_reducible rfl
               rotate_left
               ·simp only [Act.put, sZ1, sZ2, sZ3, bN, bP]
                rfl
               refine bX (i := 1) (N := some 90) (v := ?_) (a' := ?_) #[true, true, false, false, false, false, false, false, false, false, false, false, false] rfl rfl (bS HT_.out (by kernel_rfl)) (fun _ _ _ h => h) (Or.inl ⟨by rfl, ?_⟩) ?_ ?_
               rotate_left
               ·intro w'
                go_simp
                with_reducible rfl
               rotate_left
               ·simp only [Act.put, sZ1, sZ2, sZ3, bN, bP]
                rfl
               refine bX (i := 2) (N := some 91) (v := ?_) (a' := ?_) #[true, true, true, false, false, false, false, false, false, false, false, false, false] rfl rfl (bS HT_.out (by kernel_rfl)) (fun _ _ _ h => h) (Or.inl ⟨by rfl, ?_⟩) ?_ ?_
               rotate_left
               ·intro w'
                go_simp
                with_reducible rfl
               rotate_left
               ·simp only [Act.put, sZ1, sZ2, sZ3, bN, bP]
                rfl
               refine bX (i := 5) (N := some 94) (v := ?_) (a' := ?_) #[true, true, true, false, false, true, false, false, false, false, false, false, false] rfl rfl (bS HT_.out (by kernel_rfl)) (fun _ _ _ h => h) (Or.inl ⟨by rfl, ?_⟩) ?_ ?_
               rotate_left
               ·intro w'
                go_simp
                with_reducible rfl
               rotate_left
               ·simp only [Act.put, sZ1, sZ2, sZ3, bN, bP]
                rfl
               refine bX (i := 6) (N := some 95) (v := ?_) (a' := ?_) #[true, true, true, false, false, true, true, false, false, false, false, false, false] rfl rfl (bS HT_.out (by kernel_rfl)) (fun _ _ _ h => h) (Or.inl ⟨by rfl, ?_⟩) ?_ ?_
               rotate_left
               ·intro w'
                go_simp
                with_reducible rfl
               rotate_left
               ·simp only [Act.put, sZ1, sZ2, sZ3, bN, bP]
                rfl
               refine take_ (i := 3) (N := some 92) (v := ?_) (a' := ?_) #[true, true, true, true, false, true, true, false, false, false, false, false, false] rfl rfl (take_ofW HT_.out HW_.out (by kernel_rfl)) (fun _ _ _ h => h) (Or.inl ⟨by rfl, ?_⟩) hHeld ?_ ?_
               rotate_left
               ·rintro w' ⟨s0, s1⟩
                go_simp
                with_reducible rfl
               rotate_left
               ·simp only [Act.put, sZ1, sZ2, sZ3, bN, bP]
                rfl
               refine take_ (i := 4) (N := some 93) (v := ?_) (a' := ?_) #[true, true, true, true, true, true, true, false, false, false, false, false, false] rfl rfl (take_ofW HT_.out HW_.out (by kernel_rfl)) (fun _ _ _ h => h) (Or.inl ⟨by rfl, ?_⟩) hHeld ?_ ?_
               rotate_left
               ·rintro w' ⟨s0, s1⟩
                go_simp
                with_reducible rfl
               rotate_left
               ·simp only [Act.put, sZ1, sZ2, sZ3, bN, bP]
                rfl
               refine one_ (i := 7) (N := some 96) #[true, true, true, true, true, true, true, true, false, false, false, false, false] rfl rfl (one_of HT_.out (by kernel_rfl)) (by decide) (fun K hK => ?_)
               refine goes_ Try.func88 (by kernel_rfl) rfl #[.agg #[.slice A266_0 ((rd_T44 l2 x13_3).f0).length c266_0], .agg #[.slice Ao45 t261.length co45], .int .i64 5, .int .i64 (wrap64 (16 * x13_3))] (by rfl) rfl rfl (by (try simp only [List.map_toArray, List.map_cons, List.map_nil]); first | done | rfl | (simp only [List.length_drop, List.length_take]; rfl)) ?_
               with_reducible refine (easementref16_Flow.calls k3 _ _ ((rd_T44 l2 x13_3).f0) _ _ t261 5 (wrap64 (16 * x13_3)) t267 t270 _ ?side1 ?side2 ?side3 ?side4 A38.out).mono ?_
               (case side1 => repeat (first | exact (Kd.bW HR266_0.out HB.out) | (with_reducible refine Kd.bV ?_ _) | (with_reducible refine Kd.bU ?_ _) | (with_reducible refine Kd.cA ?_)))
               (case side2 => exact HC266_0.out)
               (case side3 => repeat (first | exact (Kd.cF HO263.out).2.2 | (with_reducible refine Kd.bV ?_ _) | (with_reducible refine Kd.bU ?_ _) | (with_reducible refine Kd.cA ?_)))
               (case side4 => exact (Kd.cF HO263.out).2.1)
               rintro e w51 ⟨v268, rfl, ho0, hb⟩
               refine ⟨_, rfl, ?_⟩
               have n0_ := Aside0.mk (Kd.R_elder' (by (with_reducible repeat (first | apply Kd.bR | apply Kd.bQ | apply Kd.bT)); exact HO_11.out) (Kd.R_base ho0) hb)
               have n1_ := Aside0.mk (Kd.cC (by (with_reducible repeat (first | apply Kd.bR | apply Kd.bQ | apply Kd.bT)); exact HO263.out) hb)
               have n2_ := Aside0.mk (Kd.R_lower (Kd.R_new' ho0 (Kd.R_lt (by (with_reducible repeat (first | apply Kd.bR | apply Kd.bQ | apply Kd.bT)); exact HO_11.out))) (bK (by repeat (first | (with_reducible first | exact HB.out | apply bC | apply bA | apply bB | refine bD ?_ GE247.out | refine bD ?_ GE248.out | refine bD ?_ GE265.out) | exact HB.out))))
               have n3_ := Aside0.mk (bL (g := gb247) (o := .cells #[.int .i64 a0_0, .slice A0_1 l0_1.length c0_1, .slice (some ad260) l0_2.length c0_2, .slice A0_3 l0_3.length c0_3] 52 (0, 0)) (by (with_reducible repeat (first | refine bF ?_ _ | refine bG ?_ | refine bE ?_ _)); exact BK247.out) hb)
               have n4_ := Aside0.mk (bL (g := gb248) (o := .cells #[.slice A3_0 l3_0.length c3_0] 44 (0, 0)) (by (with_reducible repeat (first | refine bF ?_ _ | refine bG ?_ | refine bE ?_ _)); exact BK248.out) hb)
               have n5_ := Aside0.mk (bL (g := gb265) (o := .cells #[.slice Ao45 t261.length co45] 44 (0, 0)) (by (with_reducible repeat (first | refine bF ?_ _ | refine bG ?_ | refine bE ?_ _)); exact BK265.out) hb)
               have n6_ := Aside0.mk (bM (by repeat (first | (with_reducible first | exact HB.out | apply bC | apply bA | apply bB | refine bD ?_ GE247.out | refine bD ?_ GE248.out | refine bD ?_ GE265.out) | exact HB.out)) hb)
               clear HO_11
               clear HO263
               clear BK247
               clear BK248
               clear BK265
               clear HB
               have HO_11 := n0_
               have HO263 := n1_
               have HO269 := n2_
               have BK247 := n3_
               have BK248 := n4_
               have BK265 := n5_
               have HB := n6_
               clear n0_ n1_ n2_ n3_ n4_ n5_ n6_
               (try clear hb)
               (try clear hb2)
               (try clear hk)
               (try clear hi)
               (try clear ho0)
               refine hK.out _ _ ⟨(bH BK265.out 0).trans rfl, ((HB.out.cell (World.block_lt_of_cell? w _ hw266_0)).trans hw266_0)⟩ (fun hHeld => ?_)
               clear hK K
               refine norm_ (a' := ?_) ?_ ?_
               rotate_left
               ·show Act.put _ (some 96) _ = _
                simp only [Act.put, sZ1, sZ2, sZ3, bN, bP]
                rfl
               refine bX (i := 8) (N := some 88) (v := ?_) (a' := ?_) #[true, true, true, true, true, true, true, true, true, false, false, false, false] rfl rfl (bS HT_.out (by kernel_rfl)) (fun _ _ _ h => h) (Or.inl ⟨by rfl, ?_⟩) ?_ ?_
               rotate_left
               ·intro w'
                go_simp
                with_reducible rfl
               rotate_left
               ·simp only [Act.put, sZ1, sZ2, sZ3, bN, bP]
                rfl
               refine bX (i := 9) (N := some 97) (v := ?_) (a' := ?_) #[true, true, true, true, true, true, true, true, true, true, false, false, false] rfl rfl (bS HT_.out (by kernel_rfl)) (fun _ _ _ h => h) (Or.inl ⟨by rfl, ?_⟩) ?_ ?_
               rotate_left
               ·intro w'
                go_simp
                with_reducible rfl
               rotate_left
               ·simp only [Act.put, sZ1, sZ2, sZ3, bN, bP]
                rfl
               refine bX (i := 10) (N := some 98) (v := ?_) (a' := ?_) #[true, true, true, true, true, true, true, true, true, true, true, false, false] rfl rfl (bS HT_.out (by kernel_rfl)) (fun _ _ _ h => h) (Or.inl ⟨by rfl, ?_⟩) ?_ ?_
               rotate_left
               ·intro w'
                go_simp
                with_reducible rfl
               rotate_left
               ·simp only [Act.put, sZ1, sZ2, sZ3, bN, bP]
                rfl
               refine bX (i := 11) (N := some 16) (v := ?_) (a' := ?_) #[true, true, true, true, true, true, true, true, true, true, true, true, false] rfl rfl (bS HT_.out (by kernel_rfl)) (fun _ _ _ h => h) (Or.inl ⟨by rfl, ?_⟩) ?_ ?_
               rotate_left
               ·intro w'
                go_simp
                with_reducible rfl
               rotate_left
               ·simp only [Act.put, sZ1, sZ2, sZ3, bN, bP]
                rfl
               refine bX (i := 12) (N := some 17) (v := ?_) (a' := ?_) #[true, true, true, true, true, true, true, true, true, true, true, true, true] rfl rfl (bS HT_.out (by kernel_rfl)) (fun _ _ _ h => h) (Or.inl ⟨by rfl, ?_⟩) ?_ ?_
               rotate_left
               ·intro w'
                go_simp
                with_reducible rfl
               rotate_left
               ·simp only [Act.put, sZ1, sZ2, sZ3, bN, bP]
                rfl
               refine done_ (done_of HT_.out (by kernel_rfl)) ?_
               obtain ⟨Ao53, co53, eo53⟩ := Kd.R_slice HO269.out
               subst eo53
               try go_wp2_with (first | ((with_reducible refine gate_builtin (b := .append) (xs := #[.tmp 102, .tmp 103]) rfl ?_); (try (refine cE (by rfl) ?_; dsimp only)); at_builtin; refine Kd.R_append_rows k128 (w0 := w) w.heap.size rfl (.tmp 102) (.tmp 103) 63 128 (.agg #[(.int .i64 0), (.int .i64 0), (.int .i64 0), (.int .i64 0), (.bool false)]) 40 rfl Try.underlying63 info128 rfl (by decide) (by omega) u11 x11_3 t267 _ _ _ (fun k_ => some k_ ≠ (.slice Ao53 t267.length co53 : Value).ownBlock) (fun _ => False) rfl rfl ?aO ?aR (fun _ _ h => h) (fun _ h => h.elim) ?aF ?aB ?aS ?aL ?_; (case aR => repeat (first | exact (Kd.cF HO269.out).2.2 | (with_reducible refine Kd.bV ?_ _) | (with_reducible refine Kd.bU ?_ _) | (with_reducible refine Kd.cA ?_))); (case aB => exact (by repeat (first | (with_reducible first | exact HB.out | apply bC | apply bA | apply bB | refine bD ?_ GE247.out | refine bD ?_ GE248.out | refine bD ?_ GE265.out) | exact HB.out))); (case aF => exact (fun k_ hk => Kd.fresh' (Kd.R_lt (by (with_reducible repeat (first | apply Kd.bR | apply Kd.bQ | apply Kd.bT)); exact HO269.out)) k_ hk)); (case aO => exact (by (with_reducible repeat (first | apply Kd.bR | apply Kd.bQ | apply Kd.bT)); exact Kd.R_mono HO_11.out (fun _ hk => hk.2))); (case aS => exact (bK (by repeat (first | (with_reducible first | exact HB.out | apply bC | apply bA | apply bB | refine bD ?_ GE247.out | refine bD ?_ GE248.out | refine bD ?_ GE265.out) | exact HB.out)))); (case aL => have := LMc40.out; omega); intro v272 w52 ho hb hg hat; rw [← Ny271.out] at ho; have n0_ := Aside0.mk (blk_grown (g := gb247) (o := .cells #[.int .i64 a0_0, .slice A0_1 l0_1.length c0_1, .slice (some ad260) l0_2.length c0_2, .slice A0_3 l0_3.length c0_3] 52 (0, 0)) (by (with_reducible repeat (first | refine bF ?_ _ | refine bG ?_ | refine bE ?_ _)); exact BK247.out) hg (Kd.R_ne HO_11.out BK247.out (by decide))); have n1_ := Aside0.mk (blk_grown (g := gb248) (o := .cells #[.slice A3_0 l3_0.length c3_0] 44 (0, 0)) (by (with_reducible repeat (first | refine bF ?_ _ | refine bG ?_ | refine bE ?_ _)); exact BK248.out) hg (Kd.R_ne HO_11.out BK248.out (by decide))); have n2_ := Aside0.mk (Kd.R_over' (by (with_reducible repeat (first | apply Kd.bR | apply Kd.bQ | apply Kd.bT)); exact HO263.out) (Kd.R_typed (by (with_reducible repeat (first | apply Kd.bR | apply Kd.bQ | apply Kd.bT)); exact HO_11.out)) (by decide) hg); have n3_ := Aside0.mk (blk_grown (g := gb265) (o := .cells #[.slice Ao45 t261.length co45] 44 (0, 0)) (by (with_reducible repeat (first | refine bF ?_ _ | refine bG ?_ | refine bE ?_ _)); exact BK265.out) hg (Kd.R_ne HO_11.out BK265.out (by decide))); have n4_ := Aside0.mk (Kd.R_after (ok := (fun _ => True)) (by (with_reducible repeat (first | apply Kd.bR | apply Kd.bQ | apply Kd.bT)); exact HO269.out) hg hat); have n5_ := Aside0.mk (hb); have n6_ := Aside0.mk (ho); clear BK247; clear BK248; clear HO263; clear BK265; clear HO269; clear HB; clear HO_11; have BK247 := n0_; have BK248 := n1_; have HO263 := n2_; have BK265 := n3_; have HO269 := n4_; have HB := n5_; have HO273 := n6_; clear n0_ n1_ n2_ n3_ n4_ n5_ n6_; clear ho hb hg hat))
               go_roundg k3
               case measure => have := HJ6.out; have := HK2.out; have := HK3.out; omega
               case rel => exact ⟨(y271), (wrap64 (x13_3 + 1)), (by first | rfl | (simp; done) | (simp [*]; done)), H', ⟨by have := HJ6.out; have := HK2.out; have := HK3.out; omega⟩, ⟨by (with_reducible repeat (first | apply Kd.bR | apply Kd.bQ | apply Kd.bT)); exact Kd.R_mono HO273.out (fun _ hk => trivial)⟩, ⟨by (with_reducible repeat (first | refine bF ?_ _ | refine bG ?_ | refine bE ?_ _)); exact BK247.out⟩, ⟨by (with_reducible repeat (first | refine bF ?_ _ | refine bG ?_ | refine bE ?_ _)); exact BK248.out⟩, ⟨by repeat (first | (with_reducible first | exact HB.out | apply bC | apply bA | apply bB | refine bD ?_ GE247.out | refine bD ?_ GE248.out | refine bD ?_ GE265.out) | exact HB.out)⟩⟩
              ·rw [if_neg c40] at H
               exact absurd H (by simp)
             ·rw [if_neg c39] at H
              have c39b0 : (t270 == 0) = false := beq_eq_false_iff_ne.mpr c39
              have c39b1 : (t270 != 0) = true := bne_iff_ne.mpr c39
              simp only [Option.some.injEq, Prod.mk.injEq] at H
              obtain ⟨rfl, rfl⟩ := H
              have hnb54 := NB247_248.out
              have hnc54 := NB248_247.out
              have hcz55_0 : wr.cell? ⟨gb247, 0, none⟩ = some (.int .i64 a0_0) := (bH BK247.out 0).trans rfl
              have hcz55_1 : wr.cell? ⟨gb247, 1, none⟩ = some (.slice A0_1 l0_1.length c0_1) := (bH BK247.out 1).trans rfl
              have hcz55_2 : wr.cell? ⟨gb247, 2, none⟩ = some (.slice A0_2 l0_2.length c0_2) := (bH BK247.out 2).trans rfl
              have hcz55_3 : wr.cell? ⟨gb247, 3, none⟩ = some (.slice A0_3 l0_3.length c0_3) := (bH BK247.out 3).trans rfl
              have hfz55_0 := bJ BK247.out 0
              have hfz55_1 := bJ BK247.out 1
              have hfz55_2 := bJ BK247.out 2
              have hfz55_3 := bJ BK247.out 3
              have p260 : 0 ≤ (x13_3 : Int) := of_decide_eq_true (by first | (with_reducible assumption) | assumption)
              have q260 : x13_3 < (l0_2.length : Int) := of_decide_eq_true (by first | (with_reducible assumption) | assumption)
              obtain ⟨ad260, A260_0, c260_0, e260, hx260_0, hl260_0, hi260_0⟩ := at_T44 HR0_2.out x13_3 p260 q260
              cases e260
              replace hx260_0 := (HB.out.cell (World.block_lt_of_cell? w _ hx260_0)).trans hx260_0
              have HR260_0 := Aside0.mk hi260_0
              have HC260_0 := Aside0.mk hl260_0
              clear hi260_0 hl260_0
              replace p260 := eq_true p260
              replace q260 := eq_true q260
              try go_wp2_with (first | ((with_reducible refine cB (f := 93) rfl ?_); refine goesL_ (some 85) rfl rfl Try.func93 (by kernel_rfl) rfl #[.agg #[.slice A260_0 ((rd_T44 l0_2 x13_3).f0).length c260_0], .slice A1 l1.length c1] rfl (by (try simp only [List.map_toArray, List.map_cons, List.map_nil]); first | done | rfl | (simp only [List.length_drop, List.length_take]; rfl)) ?_; (with_reducible refine (easementref15_Subst.calls k3 _ _ ((rd_T44 l0_2 x13_3).f0) _ _ l1 t261 t264 _ ?side1 ?side2 ?side3 ?side4 A36.out).mono ?_); (case side1 => repeat (first | exact (Kd.bW HR260_0.out HB.out) | (with_reducible refine Kd.bV ?_ _) | (with_reducible refine Kd.bU ?_ _) | (with_reducible refine Kd.cA ?_))); (case side2 => exact HC260_0.out); (case side3 => repeat (first | exact (Kd.bW HR1.out HB.out) | (with_reducible refine Kd.bV ?_ _) | (with_reducible refine Kd.bU ?_ _) | (with_reducible refine Kd.cA ?_))); (case side4 => exact HC1.out); rintro e w56 ⟨v262, rfl, ho0, hb⟩; refine ⟨_, rfl, ?_⟩; have n0_ := Aside0.mk (Kd.cC (by (with_reducible repeat (first | apply Kd.bR | apply Kd.bQ | apply Kd.bT)); exact HO_11.out) hb); have n1_ := Aside0.mk (Kd.R_lower ho0 (bK (by repeat (first | (with_reducible first | exact HB.out | apply bC | apply bA | apply bB | refine bD ?_ GE247.out | refine bD ?_ GE248.out) | exact HB.out)))); have n2_ := Aside0.mk (bL (g := gb247) (o := .cells #[.int .i64 a0_0, .slice A0_1 l0_1.length c0_1, .slice (some ad260) l0_2.length c0_2, .slice A0_3 l0_3.length c0_3] 52 (0, 0)) (by (with_reducible repeat (first | refine bF ?_ _ | refine bG ?_ | refine bE ?_ _)); exact BK247.out) hb); have n3_ := Aside0.mk (bL (g := gb248) (o := .cells #[.slice A3_0 l3_0.length c3_0] 44 (0, 0)) (by (with_reducible repeat (first | refine bF ?_ _ | refine bG ?_ | refine bE ?_ _)); exact BK248.out) hb); have n4_ := Aside0.mk (bM (by repeat (first | (with_reducible first | exact HB.out | apply bC | apply bA | apply bB | refine bD ?_ GE247.out | refine bD ?_ GE248.out) | exact HB.out)) hb); clear HO_11; clear BK247; clear BK248; clear HB; have HO_11 := n0_; have HO263 := n1_; have BK247 := n2_; have BK248 := n3_; have HB := n4_; clear n0_ n1_ n2_ n3_ n4_; (try clear hb); (try clear hb2); (try clear hk); (try clear hi); (try clear ho0)) | ((with_reducible refine bZ (N := 14) rfl ?_); (try (refine cE (by rfl) ?_; dsimp only)); refine bY ?hg (N := 14) ?hd (cs := #[.slice none 0 0]) (t := 44) ?hr ?_; (case hd => rfl); (case hg => rfl); (case hr => first | (go_simp; done) | (go_simp; rfl)); intro gb265 hg w57 hbox hb; have n0_ := Aside0.mk (Kd.cC (by (with_reducible repeat (first | apply Kd.bR | apply Kd.bQ | apply Kd.bT)); exact HO_11.out) hb); have n1_ := Aside0.mk (Kd.cC (by (with_reducible repeat (first | apply Kd.bR | apply Kd.bQ | apply Kd.bT)); exact HO263.out) hb); have n2_ := Aside0.mk (bL (g := gb247) (o := .cells #[.int .i64 a0_0, .slice A0_1 l0_1.length c0_1, .slice (some ad260) l0_2.length c0_2, .slice A0_3 l0_3.length c0_3] 52 (0, 0)) (by (with_reducible repeat (first | refine bF ?_ _ | refine bG ?_ | refine bE ?_ _)); exact BK247.out) hb); have n3_ := Aside0.mk (bL (g := gb248) (o := .cells #[.slice A3_0 l3_0.length c3_0] 44 (0, 0)) (by (with_reducible repeat (first | refine bF ?_ _ | refine bG ?_ | refine bE ?_ _)); exact BK248.out) hb); have n4_ := Aside0.mk (bM (by repeat (first | (with_reducible first | exact HB.out | apply bC | apply bA | apply bB | refine bD ?_ GE247.out | refine bD ?_ GE248.out) | exact HB.out)) hb); have n5_ := Aside0.mk (hbox); have n6_ := Aside0.mk ((by rw [hg]; exact (bK (by repeat (first | (with_reducible first | exact HB.out | apply bC | apply bA | apply bB | refine bD ?_ GE247.out | refine bD ?_ GE248.out) | exact HB.out))) : w.heap.size ≤ gb265)); have n7_ := Aside0.mk ((by rw [hg]; exact (bK (by repeat (first | (with_reducible first | exact HB.out | apply bC | apply bA | apply bB | refine bD ?_ GE247.out | refine bD ?_ GE248.out) | exact HB.out))) : w.heap.size ≤ gb265)); have n8_ := Aside0.mk ((by rw [hg]; exact Nat.ne_of_lt (cD (g := gb247) (o := .cells #[.int .i64 a0_0, .slice A0_1 l0_1.length c0_1, .slice (some ad260) l0_2.length c0_2, .slice A0_3 l0_3.length c0_3] 52 (0, 0)) (by (with_reducible repeat (first | refine bF ?_ _ | refine bG ?_ | refine bE ?_ _)); exact BK247.out)) : gb247 ≠ gb265)); have n9_ := Aside0.mk ((by rw [hg]; exact Nat.ne_of_gt (cD (g := gb247) (o := .cells #[.int .i64 a0_0, .slice A0_1 l0_1.length c0_1, .slice (some ad260) l0_2.length c0_2, .slice A0_3 l0_3.length c0_3] 52 (0, 0)) (by (with_reducible repeat (first | refine bF ?_ _ | refine bG ?_ | refine bE ?_ _)); exact BK247.out)) : gb265 ≠ gb247)); have n10_ := Aside0.mk ((by rw [hg]; exact Nat.ne_of_lt (cD (g := gb248) (o := .cells #[.slice A3_0 l3_0.length c3_0] 44 (0, 0)) (by (with_reducible repeat (first | refine bF ?_ _ | refine bG ?_ | refine bE ?_ _)); exact BK248.out)) : gb248 ≠ gb265)); have n11_ := Aside0.mk ((by rw [hg]; exact Nat.ne_of_gt (cD (g := gb248) (o := .cells #[.slice A3_0 l3_0.length c3_0] 44 (0, 0)) (by (with_reducible repeat (first | refine bF ?_ _ | refine bG ?_ | refine bE ?_ _)); exact BK248.out)) : gb265 ≠ gb248)); clear HO_11; clear HO263; clear BK247; clear BK248; clear HB; have HO_11 := n0_; have HO263 := n1_; have BK247 := n2_; have BK248 := n3_; have HB := n4_; have BK265 := n5_; have GW265 := n6_; have GE265 := n7_; have NB247_265 := n8_; have NB265_247 := n9_; have NB248_265 := n10_; have NB265_248 := n11_; clear n0_ n1_ n2_ n3_ n4_ n5_ n6_ n7_ n8_ n9_ n10_ n11_; clear hb hbox hg; obtain ⟨Ao58, co58, eo58⟩ := Kd.R_slice HO263.out; subst eo58; have hnb59 := NB265_247.out; have hnc59 := NB247_265.out; have hnb60 := NB265_248.out; have hnc60 := NB248_265.out; have hcz61_0 : w57.cell? ⟨gb265, 0, none⟩ = some (.slice none 0 0) := (bH BK265.out 0).trans rfl; have hfz61_0 := bJ BK265.out 0))
              have n0_ : Aside0 (Kd.R k128 128 (w57.setCell ⟨gb265, 0, none⟩ (.slice Ao58 t261.length co58)) w.heap.size (fun _ => True) u11 x11_3) := ⟨by (with_reducible repeat (first | apply Kd.bR | apply Kd.bQ | apply Kd.bT)); exact Kd.R_mono (Kd.R_far (p := ⟨gb265, 0, none⟩) (Kd.R_types HO_11.out BK265.out (by decide)) (fun _ hk => hk.2) (.slice Ao58 t261.length co58)) (fun _ hk => trivial)⟩
              have n1_ : Aside0 (Kd.R k115 115 (w57.setCell ⟨gb265, 0, none⟩ (.slice Ao58 t261.length co58)) w.heap.size (fun _ => True) (.slice Ao58 t261.length co58) t261) := ⟨by (with_reducible repeat (first | apply Kd.bR | apply Kd.bQ | apply Kd.bT)); exact Kd.R_mono (Kd.R_far (p := ⟨gb265, 0, none⟩) (Kd.R_types HO263.out BK265.out (by decide)) (fun _ hk => hk.2) (.slice Ao58 t261.length co58)) (fun _ hk => trivial)⟩
              have n2_ : Aside0 ((w57.setCell ⟨gb265, 0, none⟩ (.slice Ao58 t261.length co58)).heap[gb247]? = some (.cells #[.int .i64 a0_0, .slice A0_1 l0_1.length c0_1, .slice (some ad260) l0_2.length c0_2, .slice A0_3 l0_3.length c0_3] 52 (0, 0))) := ⟨by (with_reducible repeat (first | refine bF ?_ _ | refine bG ?_ | refine bE ?_ _)); refine blk_far ?_ NB247_265.out _; (with_reducible repeat (first | refine bF ?_ _ | refine bG ?_ | refine bE ?_ _)); exact BK247.out⟩
              have n3_ : Aside0 ((w57.setCell ⟨gb265, 0, none⟩ (.slice Ao58 t261.length co58)).heap[gb248]? = some (.cells #[.slice A3_0 l3_0.length c3_0] 44 (0, 0))) := ⟨by (with_reducible repeat (first | refine bF ?_ _ | refine bG ?_ | refine bE ?_ _)); refine blk_far ?_ NB248_265.out _; (with_reducible repeat (first | refine bF ?_ _ | refine bG ?_ | refine bE ?_ _)); exact BK248.out⟩
              have n4_ : Aside0 ((w57.setCell ⟨gb265, 0, none⟩ (.slice Ao58 t261.length co58)).heap[gb265]? = some (.cells #[.slice Ao58 t261.length co58] 44 (0, 0))) := ⟨by (with_reducible repeat (first | refine bF ?_ _ | refine bG ?_ | refine bE ?_ _)); refine blk_put (cs := #[.slice none 0 0]) ?_ 0 _ rfl; (with_reducible repeat (first | refine bF ?_ _ | refine bG ?_ | refine bE ?_ _)); exact BK265.out⟩
              have n5_ : Aside0 (Below w.heap.size w (w57.setCell ⟨gb265, 0, none⟩ (.slice Ao58 t261.length co58))) := ⟨by repeat (first | (with_reducible first | exact HB.out | apply bC | apply bA | apply bB | refine bD ?_ GE247.out | refine bD ?_ GE248.out | refine bD ?_ GE265.out) | exact HB.out)⟩
              (try clear HO_11)
              (try clear HO263)
              (try clear BK247)
              (try clear BK248)
              (try clear BK265)
              (try clear HB)
              generalize (w57.setCell ⟨gb265, 0, none⟩ (.slice Ao58 t261.length co58)) = w62 at n0_ n1_ n2_ n3_ n4_ n5_ ⊢
              have HO_11 := n0_
              have HO263 := n1_
              have BK247 := n2_
              have BK248 := n3_
              have BK265 := n4_
              have HB := n5_
              clear n0_ n1_ n2_ n3_ n4_ n5_
              have n0_ := Aside0.mk (Kd.bT HO_11.out)
              have n1_ := Aside0.mk (Kd.bT HO263.out)
              have n2_ := Aside0.mk (bG BK247.out)
              have n3_ := Aside0.mk (bG BK248.out)
              have n4_ := Aside0.mk (bG BK265.out)
              have n5_ := Aside0.mk (bB HB.out)
              clear HO_11
              clear HO263
              clear BK247
              clear BK248
              clear BK265
              clear HB
              have HO_11 := n0_
              have HO263 := n1_
              have BK247 := n2_
              have BK248 := n3_
              have BK265 := n4_
              have HB := n5_
              clear n0_ n1_ n2_ n3_ n4_ n5_
              have p266 : 0 ≤ (x13_3 : Int) := of_decide_eq_true (by first | (with_reducible assumption) | assumption)
              have q266 : x13_3 < (l2.length : Int) := of_decide_eq_true (by first | (with_reducible assumption) | assumption)
              obtain ⟨ad266, A266_0, c266_0, e266, hx266_0, hl266_0, hi266_0⟩ := at_T44 HR2.out x13_3 p266 q266
              have hw266_0 := hx266_0
              cases e266
              replace hx266_0 := (HB.out.cell (World.block_lt_of_cell? w _ hx266_0)).trans hx266_0
              have HR266_0 := Aside0.mk hi266_0
              have HC266_0 := Aside0.mk hl266_0
              clear hi266_0 hl266_0
              replace p266 := eq_true p266
              replace q266 := eq_true q266
              refine start_ (n := 13) (S := fun w' => w'.cell? ⟨gb265, 0, none⟩ = some (.slice Ao58 t261.length co58) ∧ w'.cell? (ad266.add (x13_3).toNat) = some (.slice A266_0 ((rd_T44 l2 x13_3).f0).length c266_0)) (ds := []) #[false, false, false, false, false, false, false, false, false, false, false, false, false] (by kernel_rfl) rfl rfl ⟨(bH BK265.out 0).trans rfl, ((HB.out.cell (World.block_lt_of_cell? w _ hw266_0)).trans hw266_0)⟩ (fun hHeld => ?_); refine with_tabW easementref17_Call.tab15 easementref17_Call.bits15 (fun HT_ HW_ => ?_)
              generalize w62.drew = w63 at HO_11 HO263 BK247 BK248 BK265 HB HR266_0 hx266_0 hHeld ⊢
              refine bX (i := 0) (N := some 89) (v := ?_) (a' := ?_) #[true, false, false, false, false, false, false, false, false, false, false, false, false] rfl rfl (bS HT_.out (by kernel_rfl)) (fun _ _ _ h => h) (Or.inl ⟨by rfl, ?_⟩) ?_ ?_
              rotate_left
              ·intro w'
               go_simp
               with_reducible rfl
              rotate_left
              ·simp only [Act.put, sZ1, sZ2, sZ3, bN, bP]
               rfl
              refine bX (i := 1) (N := some 90) (v := ?_) (a' := ?_) #[true, true, false, false, false, false, false, false, false, false, false, false, false] rfl rfl (bS HT_.out (by kernel_rfl)) (fun _ _ _ h => h) (Or.inl ⟨by rfl, ?_⟩) ?_ ?_
              rotate_left
              ·intro w'
               go_simp
               with_reducible rfl
              rotate_left
              ·simp only [Act.put, sZ1, sZ2, sZ3, bN, bP]
               rfl
              refine bX (i := 2) (N := some 91) (v := ?_) (a' := ?_) #[true, true, true, false, false, false, false, false, false, false, false, false, false] rfl rfl (bS HT_.out (by kernel_rfl)) (fun _ _ _ h => h) (Or.inl ⟨by rfl, ?_⟩) ?_ ?_
              rotate_left
              ·intro w'
               go_simp
               with_reducible rfl
              rotate_left
              ·simp only [Act.put, sZ1, sZ2, sZ3, bN, bP]
               rfl
              refine bX (i := 5) (N := some 94) (v := ?_) (a' := ?_) #[true, true, true, false, false, true, false, false, false, false, false, false, false] rfl rfl (bS HT_.out (by kernel_rfl)) (fun _ _ _ h => h) (Or.inl ⟨by rfl, ?_⟩) ?_ ?_
              rotate_left
              ·intro w'
               go_simp
               with_reducible rfl
              rotate_left
              ·simp only [Act.put, sZ1, sZ2, sZ3, bN, bP]
               rfl
              refine bX (i := 6) (N := some 95) (v := ?_) (a' := ?_) #[true, true, true, false, false, true, true, false, false, false, false, false, false] rfl rfl (bS HT_.out (by kernel_rfl)) (fun _ _ _ h => h) (Or.inl ⟨by rfl, ?_⟩) ?_ ?_
              rotate_left
              ·intro w'
               go_simp
               with_reducible rfl
              rotate_left
              ·simp only [Act.put, sZ1, sZ2, sZ3, bN, bP]
               rfl
              refine take_ (i := 3) (N := some 92) (v := ?_) (a' := ?_) #[true, true, true, true, false, true, true, false, false, false, false, false, false] rfl rfl (take_ofW HT_.out HW_.out (by kernel_rfl)) (fun _ _ _ h => h) (Or.inl ⟨by rfl, ?_⟩) hHeld ?_ ?_
              rotate_left
              ·rintro w' ⟨s0, s1⟩
               go_simp
               with_reducible rfl
              rotate_left
              ·simp only [Act.put, sZ1, sZ2, sZ3, bN, bP]
               rfl
              refine take_ (i := 4) (N := some 93) (v := ?_) (a' := ?_) #[true, true, true, true, true, true, true, false, false, false, false, false, false] rfl rfl (take_ofW HT_.out HW_.out (by kernel_rfl)) (fun _ _ _ h => h) (Or.inl ⟨by rfl, ?_⟩) hHeld ?_ ?_
              rotate_left
              ·rintro w' ⟨s0, s1⟩
               go_simp
               with_reducible rfl
              rotate_left
              ·simp only [Act.put, sZ1, sZ2, sZ3, bN, bP]
               rfl
              refine one_ (i := 7) (N := some 96) #[true, true, true, true, true, true, true, true, false, false, false, false, false] rfl rfl (one_of HT_.out (by kernel_rfl)) (by decide) (fun K hK => ?_)
              refine goes_ Try.func88 (by kernel_rfl) rfl #[.agg #[.slice A266_0 ((rd_T44 l2 x13_3).f0).length c266_0], .agg #[.slice Ao58 t261.length co58], .int .i64 5, .int .i64 (wrap64 (16 * x13_3))] (by rfl) rfl rfl (by (try simp only [List.map_toArray, List.map_cons, List.map_nil]); first | done | rfl | (simp only [List.length_drop, List.length_take]; rfl)) ?_
              with_reducible refine (easementref16_Flow.calls k3 _ _ ((rd_T44 l2 x13_3).f0) _ _ t261 5 (wrap64 (16 * x13_3)) t267 t270 _ ?side1 ?side2 ?side3 ?side4 A38.out).mono ?_
              (case side1 => repeat (first | exact (Kd.bW HR266_0.out HB.out) | (with_reducible refine Kd.bV ?_ _) | (with_reducible refine Kd.bU ?_ _) | (with_reducible refine Kd.cA ?_)))
              (case side2 => exact HC266_0.out)
              (case side3 => repeat (first | exact (Kd.cF HO263.out).2.2 | (with_reducible refine Kd.bV ?_ _) | (with_reducible refine Kd.bU ?_ _) | (with_reducible refine Kd.cA ?_)))
              (case side4 => exact (Kd.cF HO263.out).2.1)
              rintro e w64 ⟨v268, rfl, ho0, hb⟩
              refine ⟨_, rfl, ?_⟩
              have n0_ := Aside0.mk (Kd.R_elder' (by (with_reducible repeat (first | apply Kd.bR | apply Kd.bQ | apply Kd.bT)); exact HO_11.out) (Kd.R_base ho0) hb)
              have n1_ := Aside0.mk (Kd.cC (by (with_reducible repeat (first | apply Kd.bR | apply Kd.bQ | apply Kd.bT)); exact HO263.out) hb)
              have n2_ := Aside0.mk (Kd.R_lower (Kd.R_new' ho0 (Kd.R_lt (by (with_reducible repeat (first | apply Kd.bR | apply Kd.bQ | apply Kd.bT)); exact HO_11.out))) (bK (by repeat (first | (with_reducible first | exact HB.out | apply bC | apply bA | apply bB | refine bD ?_ GE247.out | refine bD ?_ GE248.out | refine bD ?_ GE265.out) | exact HB.out))))
              have n3_ := Aside0.mk (bL (g := gb247) (o := .cells #[.int .i64 a0_0, .slice A0_1 l0_1.length c0_1, .slice (some ad260) l0_2.length c0_2, .slice A0_3 l0_3.length c0_3] 52 (0, 0)) (by (with_reducible repeat (first | refine bF ?_ _ | refine bG ?_ | refine bE ?_ _)); exact BK247.out) hb)
              have n4_ := Aside0.mk (bL (g := gb248) (o := .cells #[.slice A3_0 l3_0.length c3_0] 44 (0, 0)) (by (with_reducible repeat (first | refine bF ?_ _ | refine bG ?_ | refine bE ?_ _)); exact BK248.out) hb)
              have n5_ := Aside0.mk (bL (g := gb265) (o := .cells #[.slice Ao58 t261.length co58] 44 (0, 0)) (by (with_reducible repeat (first | refine bF ?_ _ | refine bG ?_ | refine bE ?_ _)); exact BK265.out) hb)
              have n6_ := Aside0.mk (bM (by repeat (first | (with_reducible first | exact HB.out | apply bC | apply bA | apply bB | refine bD ?_ GE247.out | refine bD ?_ GE248.out | refine bD ?_ GE265.out) | exact HB.out)) hb)
              clear HO_11
              clear HO263
              clear BK247
              clear BK248
              clear BK265
              clear HB
              have HO_11 := n0_
              have HO263 := n1_
              have HO269 := n2_
              have BK247 := n3_
              have BK248 := n4_
              have BK265 := n5_
              have HB := n6_
              clear n0_ n1_ n2_ n3_ n4_ n5_ n6_
              (try clear hb)
              (try clear hb2)
              (try clear hk)
              (try clear hi)
              (try clear ho0)
              refine hK.out _ _ ⟨(bH BK265.out 0).trans rfl, ((HB.out.cell (World.block_lt_of_cell? w _ hw266_0)).trans hw266_0)⟩ (fun hHeld => ?_)
              clear hK K
              refine norm_ (a' := ?_) ?_ ?_
              rotate_left
              ·show Act.put _ (some 96) _ = _
               simp only [Act.put, sZ1, sZ2, sZ3, bN, bP]
               rfl
              refine bX (i := 8) (N := some 88) (v := ?_) (a' := ?_) #[true, true, true, true, true, true, true, true, true, false, false, false, false] rfl rfl (bS HT_.out (by kernel_rfl)) (fun _ _ _ h => h) (Or.inl ⟨by rfl, ?_⟩) ?_ ?_
              rotate_left
              ·intro w'
               go_simp
               with_reducible rfl
              rotate_left
              ·simp only [Act.put, sZ1, sZ2, sZ3, bN, bP]
               rfl
              refine bX (i := 9) (N := some 97) (v := ?_) (a' := ?_) #[true, true, true, true, true, true, true, true, true, true, false, false, false] rfl rfl (bS HT_.out (by kernel_rfl)) (fun _ _ _ h => h) (Or.inl ⟨by rfl, ?_⟩) ?_ ?_
              rotate_left
              ·intro w'
               go_simp
               with_reducible rfl
              rotate_left
              ·simp only [Act.put, sZ1, sZ2, sZ3, bN, bP]
               rfl
              refine bX (i := 10) (N := some 98) (v := ?_) (a' := ?_) #[true, true, true, true, true, true, true, true, true, true, true, false, false] rfl rfl (bS HT_.out (by kernel_rfl)) (fun _ _ _ h => h) (Or.inl ⟨by rfl, ?_⟩) ?_ ?_
              rotate_left
              ·intro w'
               go_simp
               with_reducible rfl
              rotate_left
              ·simp only [Act.put, sZ1, sZ2, sZ3, bN, bP]
               rfl
              refine bX (i := 11) (N := some 16) (v := ?_) (a' := ?_) #[true, true, true, true, true, true, true, true, true, true, true, true, false] rfl rfl (bS HT_.out (by kernel_rfl)) (fun _ _ _ h => h) (Or.inl ⟨by rfl, ?_⟩) ?_ ?_
              rotate_left
              ·intro w'
               go_simp
               with_reducible rfl
              rotate_left
              ·simp only [Act.put, sZ1, sZ2, sZ3, bN, bP]
               rfl
              refine bX (i := 12) (N := some 17) (v := ?_) (a' := ?_) #[true, true, true, true, true, true, true, true, true, true, true, true, true] rfl rfl (bS HT_.out (by kernel_rfl)) (fun _ _ _ h => h) (Or.inl ⟨by rfl, ?_⟩) ?_ ?_
              rotate_left
              ·intro w'
               go_simp
               with_reducible rfl
              rotate_left
              ·simp only [Act.put, sZ1, sZ2, sZ3, bN, bP]
               rfl
              refine done_ (done_of HT_.out (by kernel_rfl)) ?_
              try go_wp2
              go_ret2
              exact ⟨_, by first | rfl | (simp [errW_none, errW_some] <;> rfl) | (simp [*, errW_none, errW_some] <;> rfl), by first | exact Kd.R_nil _ _ _ _ _ | exact Kd.N_nil _ _ _ _ _ | exact Kd.V_nil _ _ _ _ _ | exact Kd.Q_nil _ _ _ _ _ | exact Kd.S_nil _ _ _ _ _, by repeat (first | (with_reducible first | exact HB.out | apply bC | apply bA | apply bB | refine bD ?_ GE247.out | refine bD ?_ GE248.out | refine bD ?_ GE265.out) | exact HB.out)⟩
            ·rw [if_neg c37] at H
             exact absurd H (by simp)
           ·rw [if_neg c35] at H
            exact absurd H (by simp)
          ·rw [if_neg c34] at H
           have c34b0 : decide (x13_3 < (l0_2.length : Int)) = false := decide_eq_false c34
           clear c34
           replace H := Option.bind_eq_some_iff.mp H
           obtain ⟨⟨t274, t277⟩, A650, H⟩ := H
           replace H : ((easementref16_Flow.f k3 t274 l3_0 6 0).bind fun bt279 => (if bt279.2 = 0 then (if x11_3.length + bt279.1.length < 3518437208883 then (some ((x11_3 ++ bt279.1), 0)) else (none)) else (some (([] : List (S128)), bt279.2)))) = some (r1, r2) := H
           have A65 := Aside0.mk A650
           clear A650
           replace H := Option.bind_eq_some_iff.mp H
           obtain ⟨⟨t279, t282⟩, A660, H⟩ := H
           replace H : (if t282 = 0 then (if x11_3.length + t279.length < 3518437208883 then (some ((x11_3 ++ t279), 0)) else (none)) else (some (([] : List (S128)), t282))) = some (r1, r2) := H
           have A66 := Aside0.mk A660
           clear A660
           by_cases c67 : t282 = 0
           ·rw [if_pos c67] at H
            have c67b0 : (t282 == 0) = true := beq_iff_eq.mpr c67
            have c67b1 : (t282 != 0) = false := bne_eq_false_iff_eq.mpr c67
            clear c67
            by_cases c68 : x11_3.length + t279.length < 3518437208883
            ·rw [if_pos c68] at H
             have LMc68 := Aside0.mk c68
             clear c68
             obtain ⟨y283, hy283⟩ : ∃ y_ : List (S128), y_ = (x11_3 ++ t279) := ⟨_, rfl⟩
             replace H : (some (y283, 0)) = some (r1, r2) := by first | (rw [hy283]; with_reducible exact H) | (have H2_ := (Option.bind_some _ _).symm.trans H; rw [hy283]; with_reducible exact H2_) | (have H2_ := (Option.bind_some _ _).symm.trans H; with_reducible exact H2_) | with_reducible exact H | (rw [hy283]; exact H) | exact H
             have Ny283 := Aside0.mk hy283
             clear hy283
             simp only [Option.some.injEq, Prod.mk.injEq] at H
             obtain ⟨rfl, rfl⟩ := H
             have hnb69 := NB247_248.out
             have hnc69 := NB248_247.out
             have hcz70_0 : wr.cell? ⟨gb247, 0, none⟩ = some (.int .i64 a0_0) := (bH BK247.out 0).trans rfl
             have hcz70_1 : wr.cell? ⟨gb247, 1, none⟩ = some (.slice A0_1 l0_1.length c0_1) := (bH BK247.out 1).trans rfl
             have hcz70_2 : wr.cell? ⟨gb247, 2, none⟩ = some (.slice A0_2 l0_2.length c0_2) := (bH BK247.out 2).trans rfl
             have hcz70_3 : wr.cell? ⟨gb247, 3, none⟩ = some (.slice A0_3 l0_3.length c0_3) := (bH BK247.out 3).trans rfl
             have hfz70_0 := bJ BK247.out 0
             have hfz70_1 := bJ BK247.out 1
             have hfz70_2 := bJ BK247.out 2
             have hfz70_3 := bJ BK247.out 3
             go_wp2_with (first | ((with_reducible refine cB (f := 93) rfl ?_); refine goesL_ (some 109) rfl rfl Try.func93 (by kernel_rfl) rfl #[.agg #[.slice A0_3 l0_3.length c0_3], .slice A1 l1.length c1] rfl (by (try simp only [List.map_toArray, List.map_cons, List.map_nil]); first | done | rfl | (simp only [List.length_drop, List.length_take]; rfl)) ?_; (with_reducible refine (easementref15_Subst.calls k3 _ _ l0_3 _ _ l1 t274 t277 _ ?side1 ?side2 ?side3 ?side4 A65.out).mono ?_); (case side1 => repeat (first | exact (Kd.bW HR0_3.out HB.out) | (with_reducible refine Kd.bV ?_ _) | (with_reducible refine Kd.bU ?_ _) | (with_reducible refine Kd.cA ?_))); (case side2 => exact HC0_3.out); (case side3 => repeat (first | exact (Kd.bW HR1.out HB.out) | (with_reducible refine Kd.bV ?_ _) | (with_reducible refine Kd.bU ?_ _) | (with_reducible refine Kd.cA ?_))); (case side4 => exact HC1.out); rintro e w71 ⟨v275, rfl, ho0, hb⟩; refine ⟨_, rfl, ?_⟩; have n0_ := Aside0.mk (Kd.cC (by (with_reducible repeat (first | apply Kd.bR | apply Kd.bQ | apply Kd.bT)); exact HO_11.out) hb); have n1_ := Aside0.mk (Kd.R_lower ho0 (bK (by repeat (first | (with_reducible first | exact HB.out | apply bC | apply bA | apply bB | refine bD ?_ GE247.out | refine bD ?_ GE248.out) | exact HB.out)))); have n2_ := Aside0.mk (bL (g := gb247) (o := .cells #[.int .i64 a0_0, .slice A0_1 l0_1.length c0_1, .slice A0_2 l0_2.length c0_2, .slice A0_3 l0_3.length c0_3] 52 (0, 0)) (by (with_reducible repeat (first | refine bF ?_ _ | refine bG ?_ | refine bE ?_ _)); exact BK247.out) hb); have n3_ := Aside0.mk (bL (g := gb248) (o := .cells #[.slice A3_0 l3_0.length c3_0] 44 (0, 0)) (by (with_reducible repeat (first | refine bF ?_ _ | refine bG ?_ | refine bE ?_ _)); exact BK248.out) hb); have n4_ := Aside0.mk (bM (by repeat (first | (with_reducible first | exact HB.out | apply bC | apply bA | apply bB | refine bD ?_ GE247.out | refine bD ?_ GE248.out) | exact HB.out)) hb); clear HO_11; clear BK247; clear BK248; clear HB; have HO_11 := n0_; have HO276 := n1_; have BK247 := n2_; have BK248 := n3_; have HB := n4_; clear n0_ n1_ n2_ n3_ n4_; (try clear hb); (try clear hb2); (try clear hk); (try clear hi); (try clear ho0)) | ((with_reducible refine bZ (N := 18) rfl ?_); (try (refine cE (by rfl) ?_; dsimp only)); refine bY ?hg (N := 18) ?hd (cs := #[.slice none 0 0]) (t := 44) ?hr ?_; (case hd => rfl); (case hg => rfl); (case hr => first | (go_simp; done) | (go_simp; rfl)); intro gb278 hg w72 hbox hb; have n0_ := Aside0.mk (Kd.cC (by (with_reducible repeat (first | apply Kd.bR | apply Kd.bQ | apply Kd.bT)); exact HO_11.out) hb); have n1_ := Aside0.mk (Kd.cC (by (with_reducible repeat (first | apply Kd.bR | apply Kd.bQ | apply Kd.bT)); exact HO276.out) hb); have n2_ := Aside0.mk (bL (g := gb247) (o := .cells #[.int .i64 a0_0, .slice A0_1 l0_1.length c0_1, .slice A0_2 l0_2.length c0_2, .slice A0_3 l0_3.length c0_3] 52 (0, 0)) (by (with_reducible repeat (first | refine bF ?_ _ | refine bG ?_ | refine bE ?_ _)); exact BK247.out) hb); have n3_ := Aside0.mk (bL (g := gb248) (o := .cells #[.slice A3_0 l3_0.length c3_0] 44 (0, 0)) (by (with_reducible repeat (first | refine bF ?_ _ | refine bG ?_ | refine bE ?_ _)); exact BK248.out) hb); have n4_ := Aside0.mk (bM (by repeat (first | (with_reducible first | exact HB.out | apply bC | apply bA | apply bB | refine bD ?_ GE247.out | refine bD ?_ GE248.out) | exact HB.out)) hb); have n5_ := Aside0.mk (hbox); have n6_ := Aside0.mk ((by rw [hg]; exact (bK (by repeat (first | (with_reducible first | exact HB.out | apply bC | apply bA | apply bB | refine bD ?_ GE247.out | refine bD ?_ GE248.out) | exact HB.out))) : w.heap.size ≤ gb278)); have n7_ := Aside0.mk ((by rw [hg]; exact (bK (by repeat (first | (with_reducible first | exact HB.out | apply bC | apply bA | apply bB | refine bD ?_ GE247.out | refine bD ?_ GE248.out) | exact HB.out))) : w.heap.size ≤ gb278)); have n8_ := Aside0.mk ((by rw [hg]; exact Nat.ne_of_lt (cD (g := gb247) (o := .cells #[.int .i64 a0_0, .slice A0_1 l0_1.length c0_1, .slice A0_2 l0_2.length c0_2, .slice A0_3 l0_3.length c0_3] 52 (0, 0)) (by (with_reducible repeat (first | refine bF ?_ _ | refine bG ?_ | refine bE ?_ _)); exact BK247.out)) : gb247 ≠ gb278)); have n9_ := Aside0.mk ((by rw [hg]; exact Nat.ne_of_gt (cD (g := gb247) (o := .cells #[.int .i64 a0_0, .slice A0_1 l0_1.length c0_1, .slice A0_2 l0_2.length c0_2, .slice A0_3 l0_3.length c0_3] 52 (0, 0)) (by (with_reducible repeat (first | refine bF ?_ _ | refine bG ?_ | refine bE ?_ _)); exact BK247.out)) : gb278 ≠ gb247)); have n10_ := Aside0.mk ((by rw [hg]; exact Nat.ne_of_lt (cD (g := gb248) (o := .cells #[.slice A3_0 l3_0.length c3_0] 44 (0, 0)) (by (with_reducible repeat (first | refine bF ?_ _ | refine bG ?_ | refine bE ?_ _)); exact BK248.out)) : gb248 ≠ gb278)); have n11_ := Aside0.mk ((by rw [hg]; exact Nat.ne_of_gt (cD (g := gb248) (o := .cells #[.slice A3_0 l3_0.length c3_0] 44 (0, 0)) (by (with_reducible repeat (first | refine bF ?_ _ | refine bG ?_ | refine bE ?_ _)); exact BK248.out)) : gb278 ≠ gb248)); clear HO_11; clear HO276; clear BK247; clear BK248; clear HB; have HO_11 := n0_; have HO276 := n1_; have BK247 := n2_; have BK248 := n3_; have HB := n4_; have BK278 := n5_; have GW278 := n6_; have GE278 := n7_; have NB247_278 := n8_; have NB278_247 := n9_; have NB248_278 := n10_; have NB278_248 := n11_; clear n0_ n1_ n2_ n3_ n4_ n5_ n6_ n7_ n8_ n9_ n10_ n11_; clear hb hbox hg; obtain ⟨Ao73, co73, eo73⟩ := Kd.R_slice HO276.out; subst eo73; have hnb74 := NB278_247.out; have hnc74 := NB247_278.out; have hnb75 := NB278_248.out; have hnc75 := NB248_278.out; have hcz76_0 : w72.cell? ⟨gb278, 0, none⟩ = some (.slice none 0 0) := (bH BK278.out 0).trans rfl; have hfz76_0 := bJ BK278.out 0; have hcz77_0 : w72.cell? ⟨gb248, 0, none⟩ = some (.slice A3_0 l3_0.length c3_0) := (bH BK248.out 0).trans rfl; have hfz77_0 := bJ BK248.out 0) | ((with_reducible refine cB (f := 88) rfl ?_); refine goesL_ (some 115) rfl rfl Try.func88 (by kernel_rfl) rfl #[.agg #[.slice Ao73 t274.length co73], .agg #[.slice A3_0 l3_0.length c3_0], .int .i64 6, .int .i64 0] rfl (by (try simp only [List.map_toArray, List.map_cons, List.map_nil]); first | done | rfl | (simp only [List.length_drop, List.length_take]; rfl)) ?_; (with_reducible refine (easementref16_Flow.calls k3 _ _ t274 _ _ l3_0 6 0 t279 t282 _ ?side1 ?side2 ?side3 ?side4 A66.out).mono ?_); (case side1 => refine (Kd.cF (e := 115) (base := w.heap.size) (ok := fun k_ => True) (n := t274.length) (c := co73) ?_).2.2; exact (by (with_reducible repeat (first | apply Kd.bR | apply Kd.bQ | apply Kd.bT)); exact (Kd.R_mono (Kd.R_far (p := ⟨gb278, 0, none⟩) (Kd.R_types HO276.out BK278.out (by decide)) (fun _ hk => hk.2) (.slice Ao73 t274.length co73)) (fun _ h_ => h_.1)))); (case side2 => exact (Kd.cF HO276.out).2.1); (case side3 => exact Kd.bW HR3_0.out (by repeat (first | (with_reducible first | exact HB.out | apply bC | apply bA | apply bB | refine bD ?_ GE247.out | refine bD ?_ GE248.out | refine bD ?_ GE278.out) | exact HB.out))); (case side4 => exact HC3_0.out); rintro e w78 ⟨v280, rfl, ho0, hb⟩; refine ⟨_, rfl, ?_⟩; have n0_ := Aside0.mk (Kd.R_elder' (by (with_reducible repeat (first | apply Kd.bR | apply Kd.bQ | apply Kd.bT)); exact (Kd.R_mono (Kd.R_far (p := ⟨gb278, 0, none⟩) (Kd.R_types HO_11.out BK278.out (by decide)) (fun _ hk => hk.2) (.slice Ao73 t274.length co73)) (fun _ h_ => h_.1))) (Kd.R_base ho0) hb); have n1_ := Aside0.mk (Kd.cC (by (with_reducible repeat (first | apply Kd.bR | apply Kd.bQ | apply Kd.bT)); exact (Kd.R_mono (Kd.R_far (p := ⟨gb278, 0, none⟩) (Kd.R_types HO276.out BK278.out (by decide)) (fun _ hk => hk.2) (.slice Ao73 t274.length co73)) (fun _ h_ => h_.1))) hb); have n2_ := Aside0.mk (Kd.R_lower (Kd.R_new' ho0 (Kd.R_lt (by (with_reducible repeat (first | apply Kd.bR | apply Kd.bQ | apply Kd.bT)); exact (Kd.R_mono (Kd.R_far (p := ⟨gb278, 0, none⟩) (Kd.R_types HO_11.out BK278.out (by decide)) (fun _ hk => hk.2) (.slice Ao73 t274.length co73)) (fun _ h_ => h_.1))))) (bK (by repeat (first | (with_reducible first | exact HB.out | apply bC | apply bA | apply bB | refine bD ?_ GE247.out | refine bD ?_ GE248.out | refine bD ?_ GE278.out) | exact HB.out)))); have n3_ := Aside0.mk (bL (g := gb247) (o := .cells #[.int .i64 a0_0, .slice A0_1 l0_1.length c0_1, .slice A0_2 l0_2.length c0_2, .slice A0_3 l0_3.length c0_3] 52 (0, 0)) (by (with_reducible repeat (first | refine bF ?_ _ | refine bG ?_ | refine bE ?_ _)); refine blk_far ?_ NB247_278.out _; (with_reducible repeat (first | refine bF ?_ _ | refine bG ?_ | refine bE ?_ _)); exact BK247.out) hb); have n4_ := Aside0.mk (bL (g := gb248) (o := .cells #[.slice A3_0 l3_0.length c3_0] 44 (0, 0)) (by (with_reducible repeat (first | refine bF ?_ _ | refine bG ?_ | refine bE ?_ _)); refine blk_far ?_ NB248_278.out _; (with_reducible repeat (first | refine bF ?_ _ | refine bG ?_ | refine bE ?_ _)); exact BK248.out) hb); have n5_ := Aside0.mk (bL (g := gb278) (o := .cells #[.slice Ao73 t274.length co73] 44 (0, 0)) (by (with_reducible repeat (first | refine bF ?_ _ | refine bG ?_ | refine bE ?_ _)); refine blk_put (cs := #[.slice none 0 0]) ?_ 0 _ rfl; (with_reducible repeat (first | refine bF ?_ _ | refine bG ?_ | refine bE ?_ _)); exact BK278.out) hb); have n6_ := Aside0.mk (bM (by repeat (first | (with_reducible first | exact HB.out | apply bC | apply bA | apply bB | refine bD ?_ GE247.out | refine bD ?_ GE248.out | refine bD ?_ GE278.out) | exact HB.out)) hb); clear HO_11; clear HO276; clear BK247; clear BK248; clear BK278; clear HB; have HO_11 := n0_; have HO276 := n1_; have HO281 := n2_; have BK247 := n3_; have BK248 := n4_; have BK278 := n5_; have HB := n6_; clear n0_ n1_ n2_ n3_ n4_ n5_ n6_; (try clear hb); (try clear hb2); (try clear hk); (try clear hi); (try clear ho0); obtain ⟨Ao80, co80, eo80⟩ := Kd.R_slice HO281.out; subst eo80) | ((with_reducible refine gate_builtin (b := .append) (xs := #[.tmp 121, .tmp 122]) rfl ?_); (try (refine cE (by rfl) ?_; dsimp only)); at_builtin; refine Kd.R_append_rows k128 (w0 := w) w.heap.size rfl (.tmp 121) (.tmp 122) 63 128 (.agg #[(.int .i64 0), (.int .i64 0), (.int .i64 0), (.int .i64 0), (.bool false)]) 40 rfl Try.underlying63 info128 rfl (by decide) (by omega) u11 x11_3 t279 _ _ _ (fun k_ => some k_ ≠ (.slice Ao80 t279.length co80 : Value).ownBlock) (fun _ => False) rfl rfl ?aO ?aR (fun _ _ h => h) (fun _ h => h.elim) ?aF ?aB ?aS ?aL ?_; (case aR => repeat (first | exact (Kd.cF HO281.out).2.2 | (with_reducible refine Kd.bV ?_ _) | (with_reducible refine Kd.bU ?_ _) | (with_reducible refine Kd.cA ?_))); (case aB => exact (by repeat (first | (with_reducible first | exact HB.out | apply bC | apply bA | apply bB | refine bD ?_ GE247.out | refine bD ?_ GE248.out | refine bD ?_ GE278.out) | exact HB.out))); (case aF => exact (fun k_ hk => Kd.fresh' (Kd.R_lt (by (with_reducible repeat (first | apply Kd.bR | apply Kd.bQ | apply Kd.bT)); exact HO281.out)) k_ hk)); (case aO => exact (by (with_reducible repeat (first | apply Kd.bR | apply Kd.bQ | apply Kd.bT)); exact Kd.R_mono HO_11.out (fun _ hk => hk.2))); (case aS => exact (bK (by repeat (first | (with_reducible first | exact HB.out | apply bC | apply bA | apply bB | refine bD ?_ GE247.out | refine bD ?_ GE248.out | refine bD ?_ GE278.out) | exact HB.out)))); (case aL => have := LMc68.out; omega); intro v284 w79 ho hb hg hat; rw [← Ny283.out] at ho; have n0_ := Aside0.mk (blk_grown (g := gb247) (o := .cells #[.int .i64 a0_0, .slice A0_1 l0_1.length c0_1, .slice A0_2 l0_2.length c0_2, .slice A0_3 l0_3.length c0_3] 52 (0, 0)) (by (with_reducible repeat (first | refine bF ?_ _ | refine bG ?_ | refine bE ?_ _)); exact BK247.out) hg (Kd.R_ne HO_11.out BK247.out (by decide))); have n1_ := Aside0.mk (blk_grown (g := gb248) (o := .cells #[.slice A3_0 l3_0.length c3_0] 44 (0, 0)) (by (with_reducible repeat (first | refine bF ?_ _ | refine bG ?_ | refine bE ?_ _)); exact BK248.out) hg (Kd.R_ne HO_11.out BK248.out (by decide))); have n2_ := Aside0.mk (Kd.R_over' (by (with_reducible repeat (first | apply Kd.bR | apply Kd.bQ | apply Kd.bT)); exact HO276.out) (Kd.R_typed (by (with_reducible repeat (first | apply Kd.bR | apply Kd.bQ | apply Kd.bT)); exact HO_11.out)) (by decide) hg); have n3_ := Aside0.mk (blk_grown (g := gb278) (o := .cells #[.slice Ao73 t274.length co73] 44 (0, 0)) (by (with_reducible repeat (first | refine bF ?_ _ | refine bG ?_ | refine bE ?_ _)); exact BK278.out) hg (Kd.R_ne HO_11.out BK278.out (by decide))); have n4_ := Aside0.mk (Kd.R_after (ok := (fun _ => True)) (by (with_reducible repeat (first | apply Kd.bR | apply Kd.bQ | apply Kd.bT)); exact HO281.out) hg hat); have n5_ := Aside0.mk (hb); have n6_ := Aside0.mk (ho); clear BK247; clear BK248; clear HO276; clear BK278; clear HO281; clear HB; clear HO_11; have BK247 := n0_; have BK248 := n1_; have HO276 := n2_; have BK278 := n3_; have HO281 := n4_; have HB := n5_; have HO285 := n6_; clear n0_ n1_ n2_ n3_ n4_ n5_ n6_; clear ho hb hg hat))
             go_ret2
             exact ⟨_, by first | rfl | (simp [errW_none, errW_some] <;> rfl) | (simp [*, errW_none, errW_some] <;> rfl), by (with_reducible repeat (first | apply Kd.bR | apply Kd.bQ | apply Kd.bT)); exact Kd.R_mono HO285.out (fun _ hk => trivial), by repeat (first | (with_reducible first | exact HB.out | apply bC | apply bA | apply bB | refine bD ?_ GE247.out | refine bD ?_ GE248.out | refine bD ?_ GE278.out) | exact HB.out)⟩
            ·rw [if_neg c68] at H
             exact absurd H (by simp)
           ·rw [if_neg c67] at H
            have c67b0 : (t282 == 0) = false := beq_eq_false_iff_ne.mpr c67
            have c67b1 : (t282 != 0) = true := bne_iff_ne.mpr c67
            simp only [Option.some.injEq, Prod.mk.injEq] at H
            obtain ⟨rfl, rfl⟩ := H
            have hnb81 := NB247_248.out
            have hnc81 := NB248_247.out
            have hcz82_0 : wr.cell? ⟨gb247, 0, none⟩ = some (.int .i64 a0_0) := (bH BK247.out 0).trans rfl
            have hcz82_1 : wr.cell? ⟨gb247, 1, none⟩ = some (.slice A0_1 l0_1.length c0_1) := (bH BK247.out 1).trans rfl
            have hcz82_2 : wr.cell? ⟨gb247, 2, none⟩ = some (.slice A0_2 l0_2.length c0_2) := (bH BK247.out 2).trans rfl
            have hcz82_3 : wr.cell? ⟨gb247, 3, none⟩ = some (.slice A0_3 l0_3.length c0_3) := (bH BK247.out 3).trans rfl
            have hfz82_0 := bJ BK247.out 0
            have hfz82_1 := bJ BK247.out 1
            have hfz82_2 := bJ BK247.out 2
            have hfz82_3 := bJ BK247.out 3
            go_wp2_with (first | ((with_reducible refine cB (f := 93) rfl ?_); refine goesL_ (some 109) rfl rfl Try.func93 (by kernel_rfl) rfl #[.agg #[.slice A0_3 l0_3.length c0_3], .slice A1 l1.length c1] rfl (by (try simp only [List.map_toArray, List.map_cons, List.map_nil]); first | done | rfl | (simp only [List.length_drop, List.length_take]; rfl)) ?_; (with_reducible refine (easementref15_Subst.calls k3 _ _ l0_3 _ _ l1 t274 t277 _ ?side1 ?side2 ?side3 ?side4 A65.out).mono ?_); (case side1 => repeat (first | exact (Kd.bW HR0_3.out HB.out) | (with_reducible refine Kd.bV ?_ _) | (with_reducible refine Kd.bU ?_ _) | (with_reducible refine Kd.cA ?_))); (case side2 => exact HC0_3.out); (case side3 => repeat (first | exact (Kd.bW HR1.out HB.out) | (with_reducible refine Kd.bV ?_ _) | (with_reducible refine Kd.bU ?_ _) | (with_reducible refine Kd.cA ?_))); (case side4 => exact HC1.out); rintro e w83 ⟨v275, rfl, ho0, hb⟩; refine ⟨_, rfl, ?_⟩; have n0_ := Aside0.mk (Kd.cC (by (with_reducible repeat (first | apply Kd.bR | apply Kd.bQ | apply Kd.bT)); exact HO_11.out) hb); have n1_ := Aside0.mk (Kd.R_lower ho0 (bK (by repeat (first | (with_reducible first | exact HB.out | apply bC | apply bA | apply bB | refine bD ?_ GE247.out | refine bD ?_ GE248.out) | exact HB.out)))); have n2_ := Aside0.mk (bL (g := gb247) (o := .cells #[.int .i64 a0_0, .slice A0_1 l0_1.length c0_1, .slice A0_2 l0_2.length c0_2, .slice A0_3 l0_3.length c0_3] 52 (0, 0)) (by (with_reducible repeat (first | refine bF ?_ _ | refine bG ?_ | refine bE ?_ _)); exact BK247.out) hb); have n3_ := Aside0.mk (bL (g := gb248) (o := .cells #[.slice A3_0 l3_0.length c3_0] 44 (0, 0)) (by (with_reducible repeat (first | refine bF ?_ _ | refine bG ?_ | refine bE ?_ _)); exact BK248.out) hb); have n4_ := Aside0.mk (bM (by repeat (first | (with_reducible first | exact HB.out | apply bC | apply bA | apply bB | refine bD ?_ GE247.out | refine bD ?_ GE248.out) | exact HB.out)) hb); clear HO_11; clear BK247; clear BK248; clear HB; have HO_11 := n0_; have HO276 := n1_; have BK247 := n2_; have BK248 := n3_; have HB := n4_; clear n0_ n1_ n2_ n3_ n4_; (try clear hb); (try clear hb2); (try clear hk); (try clear hi); (try clear ho0)) | ((with_reducible refine bZ (N := 18) rfl ?_); (try (refine cE (by rfl) ?_; dsimp only)); refine bY ?hg (N := 18) ?hd (cs := #[.slice none 0 0]) (t := 44) ?hr ?_; (case hd => rfl); (case hg => rfl); (case hr => first | (go_simp; done) | (go_simp; rfl)); intro gb278 hg w84 hbox hb; have n0_ := Aside0.mk (Kd.cC (by (with_reducible repeat (first | apply Kd.bR | apply Kd.bQ | apply Kd.bT)); exact HO_11.out) hb); have n1_ := Aside0.mk (Kd.cC (by (with_reducible repeat (first | apply Kd.bR | apply Kd.bQ | apply Kd.bT)); exact HO276.out) hb); have n2_ := Aside0.mk (bL (g := gb247) (o := .cells #[.int .i64 a0_0, .slice A0_1 l0_1.length c0_1, .slice A0_2 l0_2.length c0_2, .slice A0_3 l0_3.length c0_3] 52 (0, 0)) (by (with_reducible repeat (first | refine bF ?_ _ | refine bG ?_ | refine bE ?_ _)); exact BK247.out) hb); have n3_ := Aside0.mk (bL (g := gb248) (o := .cells #[.slice A3_0 l3_0.length c3_0] 44 (0, 0)) (by (with_reducible repeat (first | refine bF ?_ _ | refine bG ?_ | refine bE ?_ _)); exact BK248.out) hb); have n4_ := Aside0.mk (bM (by repeat (first | (with_reducible first | exact HB.out | apply bC | apply bA | apply bB | refine bD ?_ GE247.out | refine bD ?_ GE248.out) | exact HB.out)) hb); have n5_ := Aside0.mk (hbox); have n6_ := Aside0.mk ((by rw [hg]; exact (bK (by repeat (first | (with_reducible first | exact HB.out | apply bC | apply bA | apply bB | refine bD ?_ GE247.out | refine bD ?_ GE248.out) | exact HB.out))) : w.heap.size ≤ gb278)); have n7_ := Aside0.mk ((by rw [hg]; exact (bK (by repeat (first | (with_reducible first | exact HB.out | apply bC | apply bA | apply bB | refine bD ?_ GE247.out | refine bD ?_ GE248.out) | exact HB.out))) : w.heap.size ≤ gb278)); have n8_ := Aside0.mk ((by rw [hg]; exact Nat.ne_of_lt (cD (g := gb247) (o := .cells #[.int .i64 a0_0, .slice A0_1 l0_1.length c0_1, .slice A0_2 l0_2.length c0_2, .slice A0_3 l0_3.length c0_3] 52 (0, 0)) (by (with_reducible repeat (first | refine bF ?_ _ | refine bG ?_ | refine bE ?_ _)); exact BK247.out)) : gb247 ≠ gb278)); have n9_ := Aside0.mk ((by rw [hg]; exact Nat.ne_of_gt (cD (g := gb247) (o := .cells #[.int .i64 a0_0, .slice A0_1 l0_1.length c0_1, .slice A0_2 l0_2.length c0_2, .slice A0_3 l0_3.length c0_3] 52 (0, 0)) (by (with_reducible repeat (first | refine bF ?_ _ | refine bG ?_ | refine bE ?_ _)); exact BK247.out)) : gb278 ≠ gb247)); have n10_ := Aside0.mk ((by rw [hg]; exact Nat.ne_of_lt (cD (g := gb248) (o := .cells #[.slice A3_0 l3_0.length c3_0] 44 (0, 0)) (by (with_reducible repeat (first | refine bF ?_ _ | refine bG ?_ | refine bE ?_ _)); exact BK248.out)) : gb248 ≠ gb278)); have n11_ := Aside0.mk ((by rw [hg]; exact Nat.ne_of_gt (cD (g := gb248) (o := .cells #[.slice A3_0 l3_0.length c3_0] 44 (0, 0)) (by (with_reducible repeat (first | refine bF ?_ _ | refine bG ?_ | refine bE ?_ _)); exact BK248.out)) : gb278 ≠ gb248)); clear HO_11; clear HO276; clear BK247; clear BK248; clear HB; have HO_11 := n0_; have HO276 := n1_; have BK247 := n2_; have BK248 := n3_; have HB := n4_; have BK278 := n5_; have GW278 := n6_; have GE278 := n7_; have NB247_278 := n8_; have NB278_247 := n9_; have NB248_278 := n10_; have NB278_248 := n11_; clear n0_ n1_ n2_ n3_ n4_ n5_ n6_ n7_ n8_ n9_ n10_ n11_; clear hb hbox hg; obtain ⟨Ao85, co85, eo85⟩ := Kd.R_slice HO276.out; subst eo85; have hnb86 := NB278_247.out; have hnc86 := NB247_278.out; have hnb87 := NB278_248.out; have hnc87 := NB248_278.out; have hcz88_0 : w84.cell? ⟨gb278, 0, none⟩ = some (.slice none 0 0) := (bH BK278.out 0).trans rfl; have hfz88_0 := bJ BK278.out 0; have hcz89_0 : w84.cell? ⟨gb248, 0, none⟩ = some (.slice A3_0 l3_0.length c3_0) := (bH BK248.out 0).trans rfl; have hfz89_0 := bJ BK248.out 0) | ((with_reducible refine cB (f := 88) rfl ?_); refine goesL_ (some 115) rfl rfl Try.func88 (by kernel_rfl) rfl #[.agg #[.slice Ao85 t274.length co85], .agg #[.slice A3_0 l3_0.length c3_0], .int .i64 6, .int .i64 0] rfl (by (try simp only [List.map_toArray, List.map_cons, List.map_nil]); first | done | rfl | (simp only [List.length_drop, List.length_take]; rfl)) ?_; (with_reducible refine (easementref16_Flow.calls k3 _ _ t274 _ _ l3_0 6 0 t279 t282 _ ?side1 ?side2 ?side3 ?side4 A66.out).mono ?_); (case side1 => refine (Kd.cF (e := 115) (base := w.heap.size) (ok := fun k_ => True) (n := t274.length) (c := co85) ?_).2.2; exact (by (with_reducible repeat (first | apply Kd.bR | apply Kd.bQ | apply Kd.bT)); exact (Kd.R_mono (Kd.R_far (p := ⟨gb278, 0, none⟩) (Kd.R_types HO276.out BK278.out (by decide)) (fun _ hk => hk.2) (.slice Ao85 t274.length co85)) (fun _ h_ => h_.1)))); (case side2 => exact (Kd.cF HO276.out).2.1); (case side3 => exact Kd.bW HR3_0.out (by repeat (first | (with_reducible first | exact HB.out | apply bC | apply bA | apply bB | refine bD ?_ GE247.out | refine bD ?_ GE248.out | refine bD ?_ GE278.out) | exact HB.out))); (case side4 => exact HC3_0.out); rintro e w90 ⟨v280, rfl, ho0, hb⟩; refine ⟨_, rfl, ?_⟩; have n0_ := Aside0.mk (Kd.R_elder' (by (with_reducible repeat (first | apply Kd.bR | apply Kd.bQ | apply Kd.bT)); exact (Kd.R_mono (Kd.R_far (p := ⟨gb278, 0, none⟩) (Kd.R_types HO_11.out BK278.out (by decide)) (fun _ hk => hk.2) (.slice Ao85 t274.length co85)) (fun _ h_ => h_.1))) (Kd.R_base ho0) hb); have n1_ := Aside0.mk (Kd.cC (by (with_reducible repeat (first | apply Kd.bR | apply Kd.bQ | apply Kd.bT)); exact (Kd.R_mono (Kd.R_far (p := ⟨gb278, 0, none⟩) (Kd.R_types HO276.out BK278.out (by decide)) (fun _ hk => hk.2) (.slice Ao85 t274.length co85)) (fun _ h_ => h_.1))) hb); have n2_ := Aside0.mk (Kd.R_lower (Kd.R_new' ho0 (Kd.R_lt (by (with_reducible repeat (first | apply Kd.bR | apply Kd.bQ | apply Kd.bT)); exact (Kd.R_mono (Kd.R_far (p := ⟨gb278, 0, none⟩) (Kd.R_types HO_11.out BK278.out (by decide)) (fun _ hk => hk.2) (.slice Ao85 t274.length co85)) (fun _ h_ => h_.1))))) (bK (by repeat (first | (with_reducible first | exact HB.out | apply bC | apply bA | apply bB | refine bD ?_ GE247.out | refine bD ?_ GE248.out | refine bD ?_ GE278.out) | exact HB.out)))); have n3_ := Aside0.mk (bL (g := gb247) (o := .cells #[.int .i64 a0_0, .slice A0_1 l0_1.length c0_1, .slice A0_2 l0_2.length c0_2, .slice A0_3 l0_3.length c0_3] 52 (0, 0)) (by (with_reducible repeat (first | refine bF ?_ _ | refine bG ?_ | refine bE ?_ _)); refine blk_far ?_ NB247_278.out _; (with_reducible repeat (first | refine bF ?_ _ | refine bG ?_ | refine bE ?_ _)); exact BK247.out) hb); have n4_ := Aside0.mk (bL (g := gb248) (o := .cells #[.slice A3_0 l3_0.length c3_0] 44 (0, 0)) (by (with_reducible repeat (first | refine bF ?_ _ | refine bG ?_ | refine bE ?_ _)); refine blk_far ?_ NB248_278.out _; (with_reducible repeat (first | refine bF ?_ _ | refine bG ?_ | refine bE ?_ _)); exact BK248.out) hb); have n5_ := Aside0.mk (bL (g := gb278) (o := .cells #[.slice Ao85 t274.length co85] 44 (0, 0)) (by (with_reducible repeat (first | refine bF ?_ _ | refine bG ?_ | refine bE ?_ _)); refine blk_put (cs := #[.slice none 0 0]) ?_ 0 _ rfl; (with_reducible repeat (first | refine bF ?_ _ | refine bG ?_ | refine bE ?_ _)); exact BK278.out) hb); have n6_ := Aside0.mk (bM (by repeat (first | (with_reducible first | exact HB.out | apply bC | apply bA | apply bB | refine bD ?_ GE247.out | refine bD ?_ GE248.out | refine bD ?_ GE278.out) | exact HB.out)) hb); clear HO_11; clear HO276; clear BK247; clear BK248; clear BK278; clear HB; have HO_11 := n0_; have HO276 := n1_; have HO281 := n2_; have BK247 := n3_; have BK248 := n4_; have BK278 := n5_; have HB := n6_; clear n0_ n1_ n2_ n3_ n4_ n5_ n6_; (try clear hb); (try clear hb2); (try clear hk); (try clear hi); (try clear ho0)))
            go_ret2
            exact ⟨_, by first | rfl | (simp [errW_none, errW_some] <;> rfl) | (simp [*, errW_none, errW_some] <;> rfl), by first | exact Kd.R_nil _ _ _ _ _ | exact Kd.N_nil _ _ _ _ _ | exact Kd.V_nil _ _ _ _ _ | exact Kd.Q_nil _ _ _ _ _ | exact Kd.S_nil _ _ _ _ _, by repeat (first | (with_reducible first | exact HB.out | apply bC | apply bA | apply bB | refine bD ?_ GE247.out | refine bD ?_ GE248.out | refine bD ?_ GE278.out) | exact HB.out)⟩
 ·rw [if_neg c6] at H
  have c6b0 : (t249 == 0) = false := beq_eq_false_iff_ne.mpr c6
  have c6b1 : (t249 != 0) = true := bne_iff_ne.mpr c6
  simp only [Option.some.injEq, Prod.mk.injEq] at H
  obtain ⟨rfl, rfl⟩ := H
  go_enter Try.func45, Try.ntmps45
  go_wp2_with (first | ((with_reducible refine bZ (N := 4) rfl ?_); (try (refine cE (by rfl) ?_; dsimp only)); refine bY ?hg (N := 4) ?hd (cs := #[.int .i64 a0_0, .slice A0_1 l0_1.length c0_1, .slice A0_2 l0_2.length c0_2, .slice A0_3 l0_3.length c0_3]) (t := 52) ?hr ?_; (case hd => rfl); (case hg => rfl); (case hr => first | (go_simp; done) | (go_simp; rfl)); intro gb247 hg w91 hbox hb; have n0_ := Aside0.mk (bM (by repeat (first | (with_reducible first | exact HB.out | apply bC | apply bA | apply bB) | exact HB.out)) hb); have n1_ := Aside0.mk (hbox); have n2_ := Aside0.mk ((by rw [hg]; exact (bK (by repeat (first | (with_reducible first | exact HB.out | apply bC | apply bA | apply bB) | exact HB.out))) : w.heap.size ≤ gb247)); have n3_ := Aside0.mk ((by rw [hg]; exact (bK (by repeat (first | (with_reducible first | exact HB.out | apply bC | apply bA | apply bB) | exact HB.out))) : w.heap.size ≤ gb247)); clear HB; have HB := n0_; have BK247 := n1_; have GW247 := n2_; have GE247 := n3_; clear n0_ n1_ n2_ n3_; clear hb hbox hg) | ((with_reducible refine bZ (N := 7) rfl ?_); (try (refine cE (by rfl) ?_; dsimp only)); refine bY ?hg (N := 7) ?hd (cs := #[.slice A3_0 l3_0.length c3_0]) (t := 44) ?hr ?_; (case hd => rfl); (case hg => rfl); (case hr => first | (go_simp; done) | (go_simp; rfl)); intro gb248 hg w92 hbox hb; have n0_ := Aside0.mk (bL (g := gb247) (o := .cells #[.int .i64 a0_0, .slice A0_1 l0_1.length c0_1, .slice A0_2 l0_2.length c0_2, .slice A0_3 l0_3.length c0_3] 52 (0, 0)) (by (with_reducible repeat (first | refine bF ?_ _ | refine bG ?_ | refine bE ?_ _)); exact BK247.out) hb); have n1_ := Aside0.mk (bM (by repeat (first | (with_reducible first | exact HB.out | apply bC | apply bA | apply bB | refine bD ?_ GE247.out) | exact HB.out)) hb); have n2_ := Aside0.mk (hbox); have n3_ := Aside0.mk ((by rw [hg]; exact (bK (by repeat (first | (with_reducible first | exact HB.out | apply bC | apply bA | apply bB | refine bD ?_ GE247.out) | exact HB.out))) : w.heap.size ≤ gb248)); have n4_ := Aside0.mk ((by rw [hg]; exact (bK (by repeat (first | (with_reducible first | exact HB.out | apply bC | apply bA | apply bB | refine bD ?_ GE247.out) | exact HB.out))) : w.heap.size ≤ gb248)); have n5_ := Aside0.mk ((by rw [hg]; exact Nat.ne_of_lt (cD (g := gb247) (o := .cells #[.int .i64 a0_0, .slice A0_1 l0_1.length c0_1, .slice A0_2 l0_2.length c0_2, .slice A0_3 l0_3.length c0_3] 52 (0, 0)) (by (with_reducible repeat (first | refine bF ?_ _ | refine bG ?_ | refine bE ?_ _)); exact BK247.out)) : gb247 ≠ gb248)); have n6_ := Aside0.mk ((by rw [hg]; exact Nat.ne_of_gt (cD (g := gb247) (o := .cells #[.int .i64 a0_0, .slice A0_1 l0_1.length c0_1, .slice A0_2 l0_2.length c0_2, .slice A0_3 l0_3.length c0_3] 52 (0, 0)) (by (with_reducible repeat (first | refine bF ?_ _ | refine bG ?_ | refine bE ?_ _)); exact BK247.out)) : gb248 ≠ gb247)); clear BK247; clear HB; have BK247 := n0_; have HB := n1_; have BK248 := n2_; have GW248 := n3_; have GE248 := n4_; have NB247_248 := n5_; have NB248_247 := n6_; clear n0_ n1_ n2_ n3_ n4_ n5_ n6_; clear hb hbox hg; have hnb93 := NB247_248.out; have hnc93 := NB248_247.out; have hcz94_0 : w92.cell? ⟨gb247, 0, none⟩ = some (.int .i64 a0_0) := (bH BK247.out 0).trans rfl; have hcz94_1 : w92.cell? ⟨gb247, 1, none⟩ = some (.slice A0_1 l0_1.length c0_1) := (bH BK247.out 1).trans rfl; have hcz94_2 : w92.cell? ⟨gb247, 2, none⟩ = some (.slice A0_2 l0_2.length c0_2) := (bH BK247.out 2).trans rfl; have hcz94_3 : w92.cell? ⟨gb247, 3, none⟩ = some (.slice A0_3 l0_3.length c0_3) := (bH BK247.out 3).trans rfl; have hfz94_0 := bJ BK247.out 0; have hfz94_1 := bJ BK247.out 1; have hfz94_2 := bJ BK247.out 2; have hfz94_3 := bJ BK247.out 3) | ((with_reducible refine cB (f := 47) rfl ?_); refine goesL_ (some 23) rfl rfl Try.func47 (by kernel_rfl) rfl #[.agg #[.int .i64 a0_0, .slice A0_1 l0_1.length c0_1, .slice A0_2 l0_2.length c0_2, .slice A0_3 l0_3.length c0_3]] rfl (by (try simp only [List.map_toArray, List.map_cons, List.map_nil]); first | done | rfl | (simp only [List.length_drop, List.length_take]; rfl)) ?_; (with_reducible refine (easementref17_Check.calls k a0_0 _ _ l0_1 _ _ l0_2 _ _ l0_3 t249 _ ?side1 ?side2 ?side3 ?side4 ?side5 ?side6 A5.out).mono ?_); (case side1 => repeat (first | exact (Kd.bW HR0_1.out HB.out) | (with_reducible refine Kd.bV ?_ _) | (with_reducible refine Kd.bU ?_ _) | (with_reducible refine Kd.cA ?_))); (case side2 => exact HC0_1.out); (case side3 => repeat (first | exact (Kd.bW HR0_2.out HB.out) | (with_reducible refine Kd.bV ?_ _) | (with_reducible refine Kd.bU ?_ _) | (with_reducible refine Kd.cA ?_))); (case side4 => exact HC0_2.out); (case side5 => repeat (first | exact (Kd.bW HR0_3.out HB.out) | (with_reducible refine Kd.bV ?_ _) | (with_reducible refine Kd.bU ?_ _) | (with_reducible refine Kd.cA ?_))); (case side6 => exact HC0_3.out); rintro e w95 ⟨rfl, hb⟩; refine ⟨_, rfl, ?_⟩; have n0_ := Aside0.mk (bL (g := gb247) (o := .cells #[.int .i64 a0_0, .slice A0_1 l0_1.length c0_1, .slice A0_2 l0_2.length c0_2, .slice A0_3 l0_3.length c0_3] 52 (0, 0)) (by (with_reducible repeat (first | refine bF ?_ _ | refine bG ?_ | refine bE ?_ _)); exact BK247.out) hb); have n1_ := Aside0.mk (bL (g := gb248) (o := .cells #[.slice A3_0 l3_0.length c3_0] 44 (0, 0)) (by (with_reducible repeat (first | refine bF ?_ _ | refine bG ?_ | refine bE ?_ _)); exact BK248.out) hb); have n2_ := Aside0.mk (bM (by repeat (first | (with_reducible first | exact HB.out | apply bC | apply bA | apply bB | refine bD ?_ GE247.out | refine bD ?_ GE248.out) | exact HB.out)) hb); clear BK247; clear BK248; clear HB; have BK247 := n0_; have BK248 := n1_; have HB := n2_; clear n0_ n1_ n2_; (try clear hb); (try clear hb2); (try clear hk); (try clear hi)))
  go_ret2
  exact ⟨_, by first | rfl | (simp [errW_none, errW_some] <;> rfl) | (simp [*, errW_none, errW_some] <;> rfl), by first | exact Kd.R_nil _ _ _ _ _ | exact Kd.N_nil _ _ _ _ _ | exact Kd.V_nil _ _ _ _ _ | exact Kd.Q_nil _ _ _ _ _ | exact Kd.S_nil _ _ _ _ _, by repeat (first | (with_reducible first | exact HB.out | apply bC | apply bA | apply bB | refine bD ?_ GE247.out | refine bD ?_ GE248.out) | exact HB.out)⟩

end Go.Proofs.Ythhebinonpoddaa.GSigCalls
