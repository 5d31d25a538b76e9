/- Written for this claim by gp.py, a program of this session's, over the kit's print. Lean checks it. -/
import Derived.Test.YthhebinonpoddaaGSigCallsx0
import Derived.Test.YthhebinonpoddaaGSigCallsx3
import Derived.Test.YthhebinonpoddaaGSigCallsx4
import Derived.Test.YthhebinonpoddaaGSigCallsx5
import Derived.Test.YthhebinonpoddaaGSigCallsx8
import Derived.Test.YthhebinonpoddaaGSigCallsx10
import Derived.Test.YthhebinonpoddaaGSigCallsx14
import Derived.Test.YthhebinonpoddaaGSigCallshsigcheck
namespace Go.Proofs.Ythhebinonpoddaa.GSigCalls
open Go.RowKit Go.Proofs.YthhebinonpoddaaW.PrintWords Go.Proofs.YthhebinonpoddaaW.PrintLast Go.Proofs.YthhebinonpoddaaW.PrintMore
attribute [local go_sem] max2_int min2_int max_two min_two max_three min_three max_four min_four   -- for this text's walks alone
set_option linter.unusedVariables false
set_option linter.unusedSimpArgs false

/-! ### easementlaw17_SigCalls: function 9 -/
def easementlaw17_SigCalls.j0 : Nat → List Int → List (S44) → Bool → Int → List (S117) → List (S44) → List (S115) → List (S115) → Option (Bool)
 | 0, _, _, _, _, _, _, _, _ => none
 | k + 1, x1, x2, x30, x287000, x287001, x287002, x287003, x288000 => if x30 = true then ((easementlaw17_awake.f k).bind fun t291 => (some t291)) else ((sig_Call.f k x287000 x287001 x287002 x287003 x1 x2 x288000).bind fun bt292 => ((easementref17_Call.f k x287000 x287001 x287002 x287003 x1 x2 x288000).bind fun bt296 => ((sig_Check.f x287000 x287001 x287002 x287003).bind fun t300 => ((easementref17_Check.f k x287000 x287001 x287002 x287003).bind fun t301 => (if t300 = t301 then ((easementlaw16_Doc.f k bt292.1).bind fun t302 => ((easementref16_Same.f k t302 bt296.1).bind fun t305 => (if t305 = true then (if bt292.2 = bt296.2 then ((easementlaw17_awake.f k).bind fun t306 => (some t306)) else (some false)) else (some false)))) else (some false))))))
def easementlaw17_SigCalls.f (k : Nat) (a0_0 : Int) (l0_1 : List (S117)) (l0_2 : List (S44)) (l0_3 : List (S115)) (l1 : List Int) (l2 : List (S44)) (l3_0 : List (S115)) : Option (Bool) := (easementref17_Few.f k a0_0 l0_1 l0_2 l0_3).bind fun t288 => (if t288 = true then (if (l1.length : Int) > 20 then (easementlaw17_SigCalls.j0 k l1 l2 true a0_0 l0_1 l0_2 l0_3 l3_0) else ((easementlaw17_few.f k l2).bind fun t289 => (if t289 = true then ((easementref15_Few.f l3_0 20).bind fun t290 => (easementlaw17_SigCalls.j0 k l1 l2 (!t290) a0_0 l0_1 l0_2 l0_3 l3_0)) else (easementlaw17_SigCalls.j0 k l1 l2 true a0_0 l0_1 l0_2 l0_3 l3_0)))) else (easementlaw17_SigCalls.j0 k l1 l2 true a0_0 l0_1 l0_2 l0_3 l3_0))
theorem easementlaw17_SigCalls.mono_l : ∀ k, (∀ y0 y1 y2 y3 y4 y5 y6 y7, LeO (easementlaw17_SigCalls.j0 k y0 y1 y2 y3 y4 y5 y6 y7) (easementlaw17_SigCalls.j0 (k + 1) y0 y1 y2 y3 y4 y5 y6 y7))
 | 0 => fun _ _ _ _ _ _ _ _ r h => by simp [easementlaw17_SigCalls.j0] at h
 | k + 1 => by
  have ih0 := easementlaw17_SigCalls.mono_l k
  ·intro y0 y1 y2 y3 y4 y5 y6 y7
   unfold easementlaw17_SigCalls.j0
   repeat' first
   | (with_reducible exact ih0 _ _ _ _ _ _ _ _)
   | (with_reducible exact easementlaw16_Doc.mono _ _)
   | (with_reducible exact easementlaw17_awake.mono _)
   | (with_reducible exact easementlaw17_few.mono _ _)
   | (with_reducible exact easementref16_Same.mono _ _ _)
   | (with_reducible exact easementref17_Call.mono _ _ _ _ _ _ _ _)
   | (with_reducible exact easementref17_Check.mono _ _ _ _ _)
   | (with_reducible exact easementref17_Few.mono _ _ _ _ _)
   | (with_reducible exact sig_Call.mono _ _ _ _ _ _ _ _)
   | (with_reducible exact LeO.refl _)
   | (with_reducible exact LeO.none _)
   | (with_reducible refine LeO.ite ?_ ?_)
   | (with_reducible refine LeO.bind ?_ (fun _ => ?_))
   | exact ih0 _ _ _ _ _ _ _ _
   | exact easementlaw16_Doc.mono _ _
   | exact easementlaw17_awake.mono _
   | exact easementlaw17_few.mono _ _
   | exact easementref16_Same.mono _ _ _
   | exact easementref17_Call.mono _ _ _ _ _ _ _ _
   | exact easementref17_Check.mono _ _ _ _ _
   | exact easementref17_Few.mono _ _ _ _ _
   | exact sig_Call.mono _ _ _ _ _ _ _ _
   | exact LeO.none _
   | refine LeO.ite ?_ ?_
   | refine LeO.bind ?_ (fun _ => ?_)
theorem easementlaw17_SigCalls.mono : ∀ a0 a1 a2 a3 a4 a5 a6 k, LeO (easementlaw17_SigCalls.f k a0 a1 a2 a3 a4 a5 a6) (easementlaw17_SigCalls.f (k + 1) a0 a1 a2 a3 a4 a5 a6) := by
 intro a0 a1 a2 a3 a4 a5 a6 k
 have ih0 := easementlaw17_SigCalls.mono_l k
 unfold easementlaw17_SigCalls.f
 repeat' first
   | (with_reducible exact ih0 _ _ _ _ _ _ _ _)
   | (with_reducible exact easementlaw16_Doc.mono _ _)
   | (with_reducible exact easementlaw17_awake.mono _)
   | (with_reducible exact easementlaw17_few.mono _ _)
   | (with_reducible exact easementref16_Same.mono _ _ _)
   | (with_reducible exact easementref17_Call.mono _ _ _ _ _ _ _ _)
   | (with_reducible exact easementref17_Check.mono _ _ _ _ _)
   | (with_reducible exact easementref17_Few.mono _ _ _ _ _)
   | (with_reducible exact sig_Call.mono _ _ _ _ _ _ _ _)
   | (with_reducible exact LeO.refl _)
   | (with_reducible exact LeO.none _)
   | (with_reducible refine LeO.ite ?_ ?_)
   | (with_reducible refine LeO.bind ?_ (fun _ => ?_))
   | exact ih0 _ _ _ _ _ _ _ _
   | exact easementlaw16_Doc.mono _ _
   | exact easementlaw17_awake.mono _
   | exact easementlaw17_few.mono _ _
   | exact easementref16_Same.mono _ _ _
   | exact easementref17_Call.mono _ _ _ _ _ _ _ _
   | exact easementref17_Check.mono _ _ _ _ _
   | exact easementref17_Few.mono _ _ _ _ _
   | exact sig_Call.mono _ _ _ _ _ _ _ _
   | exact LeO.none _
   | refine LeO.ite ?_ ?_
   | refine LeO.bind ?_ (fun _ => ?_)
def easementlaw17_SigCalls.T5 : Bool × List (List Nat × List Nat) := (true, [([], []), ([0], [0]), ([], []), ([2, 1], [2]), ([1, 3], [1, 3]), ([4, 3], [4]), ([5], [5]), ([6, 5, 5], [5, 6]), ([5], [5]), ([7, 8, 7, 5], [5, 7, 8]), ([5, 9], [5, 9]), ([10, 9], [10]), ([11], [11]), ([11], [11]), ([12, 13, 11], [11, 12, 13]), ([11, 14], [11, 14]), ([15, 11], [15]), ([16, 16], [16]), ([16, 17], [16, 17]), ([18, 17, 0, 1, 2, 3, 4, 5, 6, 7, 8, 9, 10, 11, 12, 13, 14, 15, 16, 17, 18], [18])])
def easementlaw17_SigCalls.B5 : List Nat := [0, 1, 0, 7, 15, 31, 63, 127, 63, 511, 1023, 2047, 4095, 4095, 16383, 32767, 65535, 131071, 262143, 524287]
theorem easementlaw17_SigCalls.tab5 : rtab .any (opsOf Try.f9 5) = easementlaw17_SigCalls.T5 := by kernel_rfl
theorem easementlaw17_SigCalls.bits5 : waitsOk easementlaw17_SigCalls.T5.2 easementlaw17_SigCalls.B5 = true := by kernel_rfl
set_option maxHeartbeats 8000000 in
set_option maxRecDepth 100000 in
theorem easementlaw17_SigCalls.calls (k : Nat) (a0_0 : Int) (A0_1 : Option Addr) (c0_1 : Nat) (l0_1 : List (S117)) (A0_2 : Option Addr) (c0_2 : Nat) (l0_2 : List (S44)) (A0_3 : Option Addr) (c0_3 : Nat) (l0_3 : List (S115)) (A1 : Option Addr) (c1 : Nat) (l1 : List Int) (A2 : Option Addr) (c2 : Nat) (l2 : List (S44)) (A3_0 : Option Addr) (c3_0 : Nat) (l3_0 : List (S115)) (r : Bool) (w : World) (hr0_1 : Kd.C k117 w A0_1 l0_1.length l0_1) (hc0_1 : l0_1.length ≤ c0_1) (hr0_2 : Kd.C k44 w A0_2 l0_2.length l0_2) (hc0_2 : l0_2.length ≤ c0_2) (hr0_3 : Kd.C k115 w A0_3 l0_3.length l0_3) (hc0_3 : l0_3.length ≤ c0_3) (hr1 : Kd.C (Kd.int .i64) w A1 l1.length l1) (hc1 : l1.length ≤ c1) (hr2 : Kd.C k44 w A2 l2.length l2) (hc2 : l2.length ≤ c2) (hr3_0 : Kd.C k115 w A3_0 l3_0.length l3_0) (hc3_0 : l3_0.length ≤ c3_0) (h : easementlaw17_SigCalls.f k a0_0 l0_1 l0_2 l0_3 l1 l2 l3_0 = some r) :
  Calls Try.prog 9 #[.agg #[.int .i64 a0_0, .slice A0_1 l0_1.length c0_1, .slice A0_2 l0_2.length c0_2, .slice A0_3 l0_3.length c0_3], .slice A1 l1.length c1, .slice A2 l2.length c2, .agg #[.slice A3_0 l3_0.length c3_0]] w fun e w' => e = .returned (.bool r) ∧ Below w.heap.size w w' := by
 have hu52 := Try.underlying52
 have hu44 := Try.underlying44
 have HR0_1 := Aside0.mk hr0_1
 have HC0_1 := Aside0.mk hc0_1
 clear hr0_1 hc0_1
 have HR0_2 := Aside0.mk hr0_2
 have HC0_2 := Aside0.mk hc0_2
 clear hr0_2 hc0_2
 have HR0_3 := Aside0.mk hr0_3
 have HC0_3 := Aside0.mk hc0_3
 clear hr0_3 hc0_3
 have HR1 := Aside0.mk hr1
 have HC1 := Aside0.mk hc1
 clear hr1 hc1
 have HR2 := Aside0.mk hr2
 have HC2 := Aside0.mk hc2
 clear hr2 hc2
 have HR3_0 := Aside0.mk hr3_0
 have HC3_0 := Aside0.mk hc3_0
 clear hr3_0 hc3_0
 have HB := Aside0.mk (Below.refl w.heap.size w)
 have H : ((easementref17_Few.f k a0_0 l0_1 l0_2 l0_3).bind fun t288 => (if t288 = true then (if (l1.length : Int) > 20 then (easementlaw17_SigCalls.j0 k l1 l2 true a0_0 l0_1 l0_2 l0_3 l3_0) else ((easementlaw17_few.f k l2).bind fun t289 => (if t289 = true then ((easementref15_Few.f l3_0 20).bind fun t290 => (easementlaw17_SigCalls.j0 k l1 l2 (!t290) a0_0 l0_1 l0_2 l0_3 l3_0)) else (easementlaw17_SigCalls.j0 k l1 l2 true a0_0 l0_1 l0_2 l0_3 l3_0)))) else (easementlaw17_SigCalls.j0 k l1 l2 true a0_0 l0_1 l0_2 l0_3 l3_0))) = some r := h
 clear h
 have HC5 := Aside0.mk H
 clear H
 go_enter Try.func9, Try.ntmps9
 go_upto_region 1 with (first | ((with_reducible refine bZ (N := 4) rfl ?_); (try (refine cE (by rfl) ?_; dsimp only)); refine bY ?hg (N := 4) ?hd (cs := #[.int .i64 a0_0, .slice A0_1 l0_1.length c0_1, .slice A0_2 l0_2.length c0_2, .slice A0_3 l0_3.length c0_3]) (t := 52) ?hr ?_; (case hd => rfl); (case hg => rfl); (case hr => first | (go_simp; done) | (go_simp; rfl)); intro gb286 hg w6 hbox hb; have n0_ := Aside0.mk (bM (by repeat (first | (with_reducible first | exact HB.out | apply bC | apply bA | apply bB) | exact HB.out)) hb); have n1_ := Aside0.mk (hbox); have n2_ := Aside0.mk ((by rw [hg]; exact (bK (by repeat (first | (with_reducible first | exact HB.out | apply bC | apply bA | apply bB) | exact HB.out))) : w.heap.size ≤ gb286)); have n3_ := Aside0.mk ((by rw [hg]; exact (bK (by repeat (first | (with_reducible first | exact HB.out | apply bC | apply bA | apply bB) | exact HB.out))) : w.heap.size ≤ gb286)); clear HB; have HB := n0_; have BK286 := n1_; have GW286 := n2_; have GE286 := n3_; clear n0_ n1_ n2_ n3_; clear hb hbox hg) | ((with_reducible refine bZ (N := 7) rfl ?_); (try (refine cE (by rfl) ?_; dsimp only)); refine bY ?hg (N := 7) ?hd (cs := #[.slice A3_0 l3_0.length c3_0]) (t := 44) ?hr ?_; (case hd => rfl); (case hg => rfl); (case hr => first | (go_simp; done) | (go_simp; rfl)); intro gb287 hg w7 hbox hb; have n0_ := Aside0.mk (bL (g := gb286) (o := .cells #[.int .i64 a0_0, .slice A0_1 l0_1.length c0_1, .slice A0_2 l0_2.length c0_2, .slice A0_3 l0_3.length c0_3] 52 (0, 0)) (by (with_reducible repeat (first | refine bF ?_ _ | refine bG ?_ | refine bE ?_ _)); exact BK286.out) hb); have n1_ := Aside0.mk (bM (by repeat (first | (with_reducible first | exact HB.out | apply bC | apply bA | apply bB | refine bD ?_ GE286.out) | exact HB.out)) hb); have n2_ := Aside0.mk (hbox); have n3_ := Aside0.mk ((by rw [hg]; exact (bK (by repeat (first | (with_reducible first | exact HB.out | apply bC | apply bA | apply bB | refine bD ?_ GE286.out) | exact HB.out))) : w.heap.size ≤ gb287)); have n4_ := Aside0.mk ((by rw [hg]; exact (bK (by repeat (first | (with_reducible first | exact HB.out | apply bC | apply bA | apply bB | refine bD ?_ GE286.out) | exact HB.out))) : w.heap.size ≤ gb287)); have n5_ := Aside0.mk ((by rw [hg]; exact Nat.ne_of_lt (cD (g := gb286) (o := .cells #[.int .i64 a0_0, .slice A0_1 l0_1.length c0_1, .slice A0_2 l0_2.length c0_2, .slice A0_3 l0_3.length c0_3] 52 (0, 0)) (by (with_reducible repeat (first | refine bF ?_ _ | refine bG ?_ | refine bE ?_ _)); exact BK286.out)) : gb286 ≠ gb287)); have n6_ := Aside0.mk ((by rw [hg]; exact Nat.ne_of_gt (cD (g := gb286) (o := .cells #[.int .i64 a0_0, .slice A0_1 l0_1.length c0_1, .slice A0_2 l0_2.length c0_2, .slice A0_3 l0_3.length c0_3] 52 (0, 0)) (by (with_reducible repeat (first | refine bF ?_ _ | refine bG ?_ | refine bE ?_ _)); exact BK286.out)) : gb287 ≠ gb286)); clear BK286; clear HB; have BK286 := n0_; have HB := n1_; have BK287 := n2_; have GW287 := n3_; have GE287 := n4_; have NB286_287 := n5_; have NB287_286 := n6_; clear n0_ n1_ n2_ n3_ n4_ n5_ n6_; clear hb hbox hg))
 (try simp only [Act.put, sZ1, sZ2, sZ3])
 go_cut [30] (fun v30 wc => ∃ (kq : Nat) (x30_4 : Bool), v30 = .bool x30_4 ∧ Aside0 (easementlaw17_SigCalls.j0 kq l1 l2 x30_4 a0_0 l0_1 l0_2 l0_3 l3_0 = some r) ∧ Aside0 (kq ≤ k) ∧ Aside0 (wc.heap[gb286]? = some (.cells #[.int .i64 a0_0, (.slice A0_1 l0_1.length c0_1), (.slice A0_2 l0_2.length c0_2), (.slice A0_3 l0_3.length c0_3)] 52 (0, 0))) ∧ Aside0 (wc.heap[gb287]? = some (.cells #[(.slice A3_0 l3_0.length c3_0)] 44 (0, 0))) ∧ Aside0 (Below w.heap.size w wc))
 case first =>
  have H := HC5.out
  clear HC5
  replace H := Option.bind_eq_some_iff.mp H
  obtain ⟨t288, A80, H⟩ := H
  replace H : (if t288 = true then (if (l1.length : Int) > 20 then (easementlaw17_SigCalls.j0 k l1 l2 true a0_0 l0_1 l0_2 l0_3 l3_0) else ((easementlaw17_few.f k l2).bind fun t289 => (if t289 = true then ((easementref15_Few.f l3_0 20).bind fun t290 => (easementlaw17_SigCalls.j0 k l1 l2 (!t290) a0_0 l0_1 l0_2 l0_3 l3_0)) else (easementlaw17_SigCalls.j0 k l1 l2 true a0_0 l0_1 l0_2 l0_3 l3_0)))) else (easementlaw17_SigCalls.j0 k l1 l2 true a0_0 l0_1 l0_2 l0_3 l3_0)) = some r := H
  have A8 := Aside0.mk A80
  clear A80
  by_cases c9 : t288 = true
  ·subst c9
   have H1 : (if (l1.length : Int) > 20 then (easementlaw17_SigCalls.j0 k l1 l2 true a0_0 l0_1 l0_2 l0_3 l3_0) else ((easementlaw17_few.f k l2).bind fun t289 => (if t289 = true then ((easementref15_Few.f l3_0 20).bind fun t290 => (easementlaw17_SigCalls.j0 k l1 l2 (!t290) a0_0 l0_1 l0_2 l0_3 l3_0)) else (easementlaw17_SigCalls.j0 k l1 l2 true a0_0 l0_1 l0_2 l0_3 l3_0)))) = some r := by rw [if_pos rfl] at H; exact H
   clear H
   have H := H1
   clear H1
   by_cases c10 : (l1.length : Int) > 20
   ·rw [if_pos c10] at H
    have c10b0 : decide (20 < (l1.length : Int)) = true := decide_eq_true c10
    have c10b1 : decide (20 < l1.length) = true := decide_eq_true (by omega)
    clear c10
    (first | rw [c10b0] | (simp only [bN, bP]; rw [c10b0]) | skip)
    have H' := Aside0.mk H
    clear H
    have hnb11 := NB286_287.out
    have hnc11 := NB287_286.out
    have hcz12_0 : w7.cell? ⟨gb286, 0, none⟩ = some (.int .i64 a0_0) := (bH BK286.out 0).trans rfl
    have hcz12_1 : w7.cell? ⟨gb286, 1, none⟩ = some (.slice A0_1 l0_1.length c0_1) := (bH BK286.out 1).trans rfl
    have hcz12_2 : w7.cell? ⟨gb286, 2, none⟩ = some (.slice A0_2 l0_2.length c0_2) := (bH BK286.out 2).trans rfl
    have hcz12_3 : w7.cell? ⟨gb286, 3, none⟩ = some (.slice A0_3 l0_3.length c0_3) := (bH BK286.out 3).trans rfl
    have hfz12_0 := bJ BK286.out 0
    have hfz12_1 := bJ BK286.out 1
    have hfz12_2 := bJ BK286.out 2
    have hfz12_3 := bJ BK286.out 3
    go_wp2_with (first | ((with_reducible refine cB (f := 41) rfl ?_); refine goesL_ (some 14) rfl rfl Try.func41 (by kernel_rfl) rfl #[.agg #[.int .i64 a0_0, .slice A0_1 l0_1.length c0_1, .slice A0_2 l0_2.length c0_2, .slice A0_3 l0_3.length c0_3]] rfl (by (try simp only [List.map_toArray, List.map_cons, List.map_nil]); first | done | rfl | (simp only [List.length_drop, List.length_take]; rfl)) ?_; (with_reducible refine (easementref17_Few.calls k a0_0 _ _ l0_1 _ _ l0_2 _ _ l0_3 true _ ?side1 ?side2 ?side3 ?side4 ?side5 ?side6 A8.out).mono ?_); (case side1 => repeat (first | exact (Kd.bW HR0_1.out HB.out) | (with_reducible refine Kd.bV ?_ _) | (with_reducible refine Kd.bU ?_ _) | (with_reducible refine Kd.cA ?_))); (case side2 => exact HC0_1.out); (case side3 => repeat (first | exact (Kd.bW HR0_2.out HB.out) | (with_reducible refine Kd.bV ?_ _) | (with_reducible refine Kd.bU ?_ _) | (with_reducible refine Kd.cA ?_))); (case side4 => exact HC0_2.out); (case side5 => repeat (first | exact (Kd.bW HR0_3.out HB.out) | (with_reducible refine Kd.bV ?_ _) | (with_reducible refine Kd.bU ?_ _) | (with_reducible refine Kd.cA ?_))); (case side6 => exact HC0_3.out); rintro e w13 ⟨rfl, hb⟩; refine ⟨_, rfl, ?_⟩; have n0_ := Aside0.mk (bL (g := gb286) (o := .cells #[.int .i64 a0_0, .slice A0_1 l0_1.length c0_1, .slice A0_2 l0_2.length c0_2, .slice A0_3 l0_3.length c0_3] 52 (0, 0)) (by (with_reducible repeat (first | refine bF ?_ _ | refine bG ?_ | refine bE ?_ _)); exact BK286.out) hb); have n1_ := Aside0.mk (bL (g := gb287) (o := .cells #[.slice A3_0 l3_0.length c3_0] 44 (0, 0)) (by (with_reducible repeat (first | refine bF ?_ _ | refine bG ?_ | refine bE ?_ _)); exact BK287.out) hb); have n2_ := Aside0.mk (bM (by repeat (first | (with_reducible first | exact HB.out | apply bC | apply bA | apply bB | refine bD ?_ GE286.out | refine bD ?_ GE287.out) | exact HB.out)) hb); clear BK286; clear BK287; clear HB; have BK286 := n0_; have BK287 := n1_; have HB := n2_; clear n0_ n1_ n2_; (try clear hb); (try clear hb2); (try clear hk); (try clear hi)))
    go_meet
    case rel => exact ⟨_, (true), (by first | rfl | (simp; done) | (simp [*]; done)), H', ⟨by first | omega | exact Nat.le_refl _⟩, ⟨by (with_reducible repeat (first | refine bF ?_ _ | refine bG ?_ | refine bE ?_ _)); exact BK286.out⟩, ⟨by (with_reducible repeat (first | refine bF ?_ _ | refine bG ?_ | refine bE ?_ _)); exact BK287.out⟩, ⟨by repeat (first | (with_reducible first | exact HB.out | apply bC | apply bA | apply bB | refine bD ?_ GE286.out | refine bD ?_ GE287.out) | exact HB.out)⟩⟩
   ·rw [if_neg c10] at H
    have c10b0 : decide (20 < (l1.length : Int)) = false := decide_eq_false c10
    have c10b1 : decide (20 < l1.length) = false := decide_eq_false (by omega)
    clear c10
    (first | rw [c10b0] | (simp only [bN, bP]; rw [c10b0]) | skip)
    replace H := Option.bind_eq_some_iff.mp H
    obtain ⟨t289, A140, H⟩ := H
    replace H : (if t289 = true then ((easementref15_Few.f l3_0 20).bind fun t290 => (easementlaw17_SigCalls.j0 k l1 l2 (!t290) a0_0 l0_1 l0_2 l0_3 l3_0)) else (easementlaw17_SigCalls.j0 k l1 l2 true a0_0 l0_1 l0_2 l0_3 l3_0)) = some r := H
    have A14 := Aside0.mk A140
    clear A140
    by_cases c15 : t289 = true
    ·subst c15
     have H1 : ((easementref15_Few.f l3_0 20).bind fun t290 => (easementlaw17_SigCalls.j0 k l1 l2 (!t290) a0_0 l0_1 l0_2 l0_3 l3_0)) = some r := by rw [if_pos rfl] at H; exact H
     clear H
     have H := H1
     clear H1
     replace H := Option.bind_eq_some_iff.mp H
     obtain ⟨t290, A160, H⟩ := H
     replace H : (easementlaw17_SigCalls.j0 k l1 l2 (!t290) a0_0 l0_1 l0_2 l0_3 l3_0) = some r := H
     have A16 := Aside0.mk A160
     clear A160
     have H' := Aside0.mk H
     clear H
     have hnb17 := NB286_287.out
     have hnc17 := NB287_286.out
     have hcz18_0 : w7.cell? ⟨gb286, 0, none⟩ = some (.int .i64 a0_0) := (bH BK286.out 0).trans rfl
     have hcz18_1 : w7.cell? ⟨gb286, 1, none⟩ = some (.slice A0_1 l0_1.length c0_1) := (bH BK286.out 1).trans rfl
     have hcz18_2 : w7.cell? ⟨gb286, 2, none⟩ = some (.slice A0_2 l0_2.length c0_2) := (bH BK286.out 2).trans rfl
     have hcz18_3 : w7.cell? ⟨gb286, 3, none⟩ = some (.slice A0_3 l0_3.length c0_3) := (bH BK286.out 3).trans rfl
     have hfz18_0 := bJ BK286.out 0
     have hfz18_1 := bJ BK286.out 1
     have hfz18_2 := bJ BK286.out 2
     have hfz18_3 := bJ BK286.out 3
     go_wp2_with (first | ((with_reducible refine cB (f := 41) rfl ?_); refine goesL_ (some 14) rfl rfl Try.func41 (by kernel_rfl) rfl #[.agg #[.int .i64 a0_0, .slice A0_1 l0_1.length c0_1, .slice A0_2 l0_2.length c0_2, .slice A0_3 l0_3.length c0_3]] rfl (by (try simp only [List.map_toArray, List.map_cons, List.map_nil]); first | done | rfl | (simp only [List.length_drop, List.length_take]; rfl)) ?_; (with_reducible refine (easementref17_Few.calls k a0_0 _ _ l0_1 _ _ l0_2 _ _ l0_3 true _ ?side1 ?side2 ?side3 ?side4 ?side5 ?side6 A8.out).mono ?_); (case side1 => repeat (first | exact (Kd.bW HR0_1.out HB.out) | (with_reducible refine Kd.bV ?_ _) | (with_reducible refine Kd.bU ?_ _) | (with_reducible refine Kd.cA ?_))); (case side2 => exact HC0_1.out); (case side3 => repeat (first | exact (Kd.bW HR0_2.out HB.out) | (with_reducible refine Kd.bV ?_ _) | (with_reducible refine Kd.bU ?_ _) | (with_reducible refine Kd.cA ?_))); (case side4 => exact HC0_2.out); (case side5 => repeat (first | exact (Kd.bW HR0_3.out HB.out) | (with_reducible refine Kd.bV ?_ _) | (with_reducible refine Kd.bU ?_ _) | (with_reducible refine Kd.cA ?_))); (case side6 => exact HC0_3.out); rintro e w19 ⟨rfl, hb⟩; refine ⟨_, rfl, ?_⟩; have n0_ := Aside0.mk (bL (g := gb286) (o := .cells #[.int .i64 a0_0, .slice A0_1 l0_1.length c0_1, .slice A0_2 l0_2.length c0_2, .slice A0_3 l0_3.length c0_3] 52 (0, 0)) (by (with_reducible repeat (first | refine bF ?_ _ | refine bG ?_ | refine bE ?_ _)); exact BK286.out) hb); have n1_ := Aside0.mk (bL (g := gb287) (o := .cells #[.slice A3_0 l3_0.length c3_0] 44 (0, 0)) (by (with_reducible repeat (first | refine bF ?_ _ | refine bG ?_ | refine bE ?_ _)); exact BK287.out) hb); have n2_ := Aside0.mk (bM (by repeat (first | (with_reducible first | exact HB.out | apply bC | apply bA | apply bB | refine bD ?_ GE286.out | refine bD ?_ GE287.out) | exact HB.out)) hb); clear BK286; clear BK287; clear HB; have BK286 := n0_; have BK287 := n1_; have HB := n2_; clear n0_ n1_ n2_; (try clear hb); (try clear hb2); (try clear hk); (try clear hi)) | (go_at_call 42; (with_reducible refine (easementlaw17_few.calls k _ _ l2 true _ ?side1 ?side2 A14.out).mono ?_); (case side1 => repeat (first | exact (Kd.bW HR2.out HB.out) | (with_reducible refine Kd.bV ?_ _) | (with_reducible refine Kd.bU ?_ _) | (with_reducible refine Kd.cA ?_))); (case side2 => exact HC2.out); rintro e w20 ⟨rfl, hb⟩; have n0_ := Aside0.mk (bL (g := gb286) (o := .cells #[.int .i64 a0_0, .slice A0_1 l0_1.length c0_1, .slice A0_2 l0_2.length c0_2, .slice A0_3 l0_3.length c0_3] 52 (0, 0)) (by (with_reducible repeat (first | refine bF ?_ _ | refine bG ?_ | refine bE ?_ _)); exact BK286.out) hb); have n1_ := Aside0.mk (bL (g := gb287) (o := .cells #[.slice A3_0 l3_0.length c3_0] 44 (0, 0)) (by (with_reducible repeat (first | refine bF ?_ _ | refine bG ?_ | refine bE ?_ _)); exact BK287.out) hb); have n2_ := Aside0.mk (bM (by repeat (first | (with_reducible first | exact HB.out | apply bC | apply bA | apply bB | refine bD ?_ GE286.out | refine bD ?_ GE287.out) | exact HB.out)) hb); clear BK286; clear BK287; clear HB; have BK286 := n0_; have BK287 := n1_; have HB := n2_; clear n0_ n1_ n2_; (try clear hb); (try clear hb2); (try clear hk); (try clear hi); have hcz21_0 : w20.cell? ⟨gb287, 0, none⟩ = some (.slice A3_0 l3_0.length c3_0) := (bH BK287.out 0).trans rfl; have hfz21_0 := bJ BK287.out 0) | (go_at_call 43; (with_reducible refine (easementref15_Few.calls _ _ l3_0 20 t290 _ ?side1 ?side2 A16.out).mono ?_); (case side1 => repeat (first | exact (Kd.bW HR3_0.out HB.out) | (with_reducible refine Kd.bV ?_ _) | (with_reducible refine Kd.bU ?_ _) | (with_reducible refine Kd.cA ?_))); (case side2 => exact HC3_0.out); rintro e w22 ⟨rfl, hb⟩; have n0_ := Aside0.mk (bL (g := gb286) (o := .cells #[.int .i64 a0_0, .slice A0_1 l0_1.length c0_1, .slice A0_2 l0_2.length c0_2, .slice A0_3 l0_3.length c0_3] 52 (0, 0)) (by (with_reducible repeat (first | refine bF ?_ _ | refine bG ?_ | refine bE ?_ _)); exact BK286.out) hb); have n1_ := Aside0.mk (bL (g := gb287) (o := .cells #[.slice A3_0 l3_0.length c3_0] 44 (0, 0)) (by (with_reducible repeat (first | refine bF ?_ _ | refine bG ?_ | refine bE ?_ _)); exact BK287.out) hb); have n2_ := Aside0.mk (bM (by repeat (first | (with_reducible first | exact HB.out | apply bC | apply bA | apply bB | refine bD ?_ GE286.out | refine bD ?_ GE287.out) | exact HB.out)) hb); clear BK286; clear BK287; clear HB; have BK286 := n0_; have BK287 := n1_; have HB := n2_; clear n0_ n1_ n2_; (try clear hb); (try clear hb2); (try clear hk); (try clear hi)))
     go_meet
     case rel => exact ⟨_, (!t290), (by first | rfl | (simp; done) | (simp [*]; done)), H', ⟨by first | omega | exact Nat.le_refl _⟩, ⟨by (with_reducible repeat (first | refine bF ?_ _ | refine bG ?_ | refine bE ?_ _)); exact BK286.out⟩, ⟨by (with_reducible repeat (first | refine bF ?_ _ | refine bG ?_ | refine bE ?_ _)); exact BK287.out⟩, ⟨by repeat (first | (with_reducible first | exact HB.out | apply bC | apply bA | apply bB | refine bD ?_ GE286.out | refine bD ?_ GE287.out) | exact HB.out)⟩⟩
    ·replace c15 := Bool.eq_false_iff.mpr c15
     subst c15
     have H1 : (easementlaw17_SigCalls.j0 k l1 l2 true a0_0 l0_1 l0_2 l0_3 l3_0) = some r := by rw [if_neg (show ¬ (false = true) by decide)] at H; exact H
     clear H
     have H := H1
     clear H1
     have H' := Aside0.mk H
     clear H
     have hnb23 := NB286_287.out
     have hnc23 := NB287_286.out
     have hcz24_0 : w7.cell? ⟨gb286, 0, none⟩ = some (.int .i64 a0_0) := (bH BK286.out 0).trans rfl
     have hcz24_1 : w7.cell? ⟨gb286, 1, none⟩ = some (.slice A0_1 l0_1.length c0_1) := (bH BK286.out 1).trans rfl
     have hcz24_2 : w7.cell? ⟨gb286, 2, none⟩ = some (.slice A0_2 l0_2.length c0_2) := (bH BK286.out 2).trans rfl
     have hcz24_3 : w7.cell? ⟨gb286, 3, none⟩ = some (.slice A0_3 l0_3.length c0_3) := (bH BK286.out 3).trans rfl
     have hfz24_0 := bJ BK286.out 0
     have hfz24_1 := bJ BK286.out 1
     have hfz24_2 := bJ BK286.out 2
     have hfz24_3 := bJ BK286.out 3
     go_wp2_with (first | ((with_reducible refine cB (f := 41) rfl ?_); refine goesL_ (some 14) rfl rfl Try.func41 (by kernel_rfl) rfl #[.agg #[.int .i64 a0_0, .slice A0_1 l0_1.length c0_1, .slice A0_2 l0_2.length c0_2, .slice A0_3 l0_3.length c0_3]] rfl (by (try simp only [List.map_toArray, List.map_cons, List.map_nil]); first | done | rfl | (simp only [List.length_drop, List.length_take]; rfl)) ?_; (with_reducible refine (easementref17_Few.calls k a0_0 _ _ l0_1 _ _ l0_2 _ _ l0_3 true _ ?side1 ?side2 ?side3 ?side4 ?side5 ?side6 A8.out).mono ?_); (case side1 => repeat (first | exact (Kd.bW HR0_1.out HB.out) | (with_reducible refine Kd.bV ?_ _) | (with_reducible refine Kd.bU ?_ _) | (with_reducible refine Kd.cA ?_))); (case side2 => exact HC0_1.out); (case side3 => repeat (first | exact (Kd.bW HR0_2.out HB.out) | (with_reducible refine Kd.bV ?_ _) | (with_reducible refine Kd.bU ?_ _) | (with_reducible refine Kd.cA ?_))); (case side4 => exact HC0_2.out); (case side5 => repeat (first | exact (Kd.bW HR0_3.out HB.out) | (with_reducible refine Kd.bV ?_ _) | (with_reducible refine Kd.bU ?_ _) | (with_reducible refine Kd.cA ?_))); (case side6 => exact HC0_3.out); rintro e w25 ⟨rfl, hb⟩; refine ⟨_, rfl, ?_⟩; have n0_ := Aside0.mk (bL (g := gb286) (o := .cells #[.int .i64 a0_0, .slice A0_1 l0_1.length c0_1, .slice A0_2 l0_2.length c0_2, .slice A0_3 l0_3.length c0_3] 52 (0, 0)) (by (with_reducible repeat (first | refine bF ?_ _ | refine bG ?_ | refine bE ?_ _)); exact BK286.out) hb); have n1_ := Aside0.mk (bL (g := gb287) (o := .cells #[.slice A3_0 l3_0.length c3_0] 44 (0, 0)) (by (with_reducible repeat (first | refine bF ?_ _ | refine bG ?_ | refine bE ?_ _)); exact BK287.out) hb); have n2_ := Aside0.mk (bM (by repeat (first | (with_reducible first | exact HB.out | apply bC | apply bA | apply bB | refine bD ?_ GE286.out | refine bD ?_ GE287.out) | exact HB.out)) hb); clear BK286; clear BK287; clear HB; have BK286 := n0_; have BK287 := n1_; have HB := n2_; clear n0_ n1_ n2_; (try clear hb); (try clear hb2); (try clear hk); (try clear hi)) | (go_at_call 42; (with_reducible refine (easementlaw17_few.calls k _ _ l2 false _ ?side1 ?side2 A14.out).mono ?_); (case side1 => repeat (first | exact (Kd.bW HR2.out HB.out) | (with_reducible refine Kd.bV ?_ _) | (with_reducible refine Kd.bU ?_ _) | (with_reducible refine Kd.cA ?_))); (case side2 => exact HC2.out); rintro e w26 ⟨rfl, hb⟩; have n0_ := Aside0.mk (bL (g := gb286) (o := .cells #[.int .i64 a0_0, .slice A0_1 l0_1.length c0_1, .slice A0_2 l0_2.length c0_2, .slice A0_3 l0_3.length c0_3] 52 (0, 0)) (by (with_reducible repeat (first | refine bF ?_ _ | refine bG ?_ | refine bE ?_ _)); exact BK286.out) hb); have n1_ := Aside0.mk (bL (g := gb287) (o := .cells #[.slice A3_0 l3_0.length c3_0] 44 (0, 0)) (by (with_reducible repeat (first | refine bF ?_ _ | refine bG ?_ | refine bE ?_ _)); exact BK287.out) hb); have n2_ := Aside0.mk (bM (by repeat (first | (with_reducible first | exact HB.out | apply bC | apply bA | apply bB | refine bD ?_ GE286.out | refine bD ?_ GE287.out) | exact HB.out)) hb); clear BK286; clear BK287; clear HB; have BK286 := n0_; have BK287 := n1_; have HB := n2_; clear n0_ n1_ n2_; (try clear hb); (try clear hb2); (try clear hk); (try clear hi)))
     go_meet
     case rel => exact ⟨_, (true), (by first | rfl | (simp; done) | (simp [*]; done)), H', ⟨by first | omega | exact Nat.le_refl _⟩, ⟨by (with_reducible repeat (first | refine bF ?_ _ | refine bG ?_ | refine bE ?_ _)); exact BK286.out⟩, ⟨by (with_reducible repeat (first | refine bF ?_ _ | refine bG ?_ | refine bE ?_ _)); exact BK287.out⟩, ⟨by repeat (first | (with_reducible first | exact HB.out | apply bC | apply bA | apply bB | refine bD ?_ GE286.out | refine bD ?_ GE287.out) | exact HB.out)⟩⟩
  ·replace c9 := Bool.eq_false_iff.mpr c9
   subst c9
   have H1 : (easementlaw17_SigCalls.j0 k l1 l2 true a0_0 l0_1 l0_2 l0_3 l3_0) = some r := by rw [if_neg (show ¬ (false = true) by decide)] at H; exact H
   clear H
   have H := H1
   clear H1
   have H' := Aside0.mk H
   clear H
   have hnb27 := NB286_287.out
   have hnc27 := NB287_286.out
   have hcz28_0 : w7.cell? ⟨gb286, 0, none⟩ = some (.int .i64 a0_0) := (bH BK286.out 0).trans rfl
   have hcz28_1 : w7.cell? ⟨gb286, 1, none⟩ = some (.slice A0_1 l0_1.length c0_1) := (bH BK286.out 1).trans rfl
   have hcz28_2 : w7.cell? ⟨gb286, 2, none⟩ = some (.slice A0_2 l0_2.length c0_2) := (bH BK286.out 2).trans rfl
   have hcz28_3 : w7.cell? ⟨gb286, 3, none⟩ = some (.slice A0_3 l0_3.length c0_3) := (bH BK286.out 3).trans rfl
   have hfz28_0 := bJ BK286.out 0
   have hfz28_1 := bJ BK286.out 1
   have hfz28_2 := bJ BK286.out 2
   have hfz28_3 := bJ BK286.out 3
   go_wp2_with (first | ((with_reducible refine cB (f := 41) rfl ?_); refine goesL_ (some 14) rfl rfl Try.func41 (by kernel_rfl) rfl #[.agg #[.int .i64 a0_0, .slice A0_1 l0_1.length c0_1, .slice A0_2 l0_2.length c0_2, .slice A0_3 l0_3.length c0_3]] rfl (by (try simp only [List.map_toArray, List.map_cons, List.map_nil]); first | done | rfl | (simp only [List.length_drop, List.length_take]; rfl)) ?_; (with_reducible refine (easementref17_Few.calls k a0_0 _ _ l0_1 _ _ l0_2 _ _ l0_3 false _ ?side1 ?side2 ?side3 ?side4 ?side5 ?side6 A8.out).mono ?_); (case side1 => repeat (first | exact (Kd.bW HR0_1.out HB.out) | (with_reducible refine Kd.bV ?_ _) | (with_reducible refine Kd.bU ?_ _) | (with_reducible refine Kd.cA ?_))); (case side2 => exact HC0_1.out); (case side3 => repeat (first | exact (Kd.bW HR0_2.out HB.out) | (with_reducible refine Kd.bV ?_ _) | (with_reducible refine Kd.bU ?_ _) | (with_reducible refine Kd.cA ?_))); (case side4 => exact HC0_2.out); (case side5 => repeat (first | exact (Kd.bW HR0_3.out HB.out) | (with_reducible refine Kd.bV ?_ _) | (with_reducible refine Kd.bU ?_ _) | (with_reducible refine Kd.cA ?_))); (case side6 => exact HC0_3.out); rintro e w29 ⟨rfl, hb⟩; refine ⟨_, rfl, ?_⟩; have n0_ := Aside0.mk (bL (g := gb286) (o := .cells #[.int .i64 a0_0, .slice A0_1 l0_1.length c0_1, .slice A0_2 l0_2.length c0_2, .slice A0_3 l0_3.length c0_3] 52 (0, 0)) (by (with_reducible repeat (first | refine bF ?_ _ | refine bG ?_ | refine bE ?_ _)); exact BK286.out) hb); have n1_ := Aside0.mk (bL (g := gb287) (o := .cells #[.slice A3_0 l3_0.length c3_0] 44 (0, 0)) (by (with_reducible repeat (first | refine bF ?_ _ | refine bG ?_ | refine bE ?_ _)); exact BK287.out) hb); have n2_ := Aside0.mk (bM (by repeat (first | (with_reducible first | exact HB.out | apply bC | apply bA | apply bB | refine bD ?_ GE286.out | refine bD ?_ GE287.out) | exact HB.out)) hb); clear BK286; clear BK287; clear HB; have BK286 := n0_; have BK287 := n1_; have HB := n2_; clear n0_ n1_ n2_; (try clear hb); (try clear hb2); (try clear hk); (try clear hi)))
   go_meet
   case rel => exact ⟨_, (true), (by first | rfl | (simp; done) | (simp [*]; done)), H', ⟨by first | omega | exact Nat.le_refl _⟩, ⟨by (with_reducible repeat (first | refine bF ?_ _ | refine bG ?_ | refine bE ?_ _)); exact BK286.out⟩, ⟨by (with_reducible repeat (first | refine bF ?_ _ | refine bG ?_ | refine bE ?_ _)); exact BK287.out⟩, ⟨by repeat (first | (with_reducible first | exact HB.out | apply bC | apply bA | apply bB | refine bD ?_ GE286.out | refine bD ?_ GE287.out) | exact HB.out)⟩⟩
 case rest =>
  clear HC5
  try clear c1
  try clear c2
  try clear p2
  try clear c3
  try clear c4
  try clear c9
  try clear c10
  try clear c10b0
  try clear c10b1
  try clear c11
  try clear c15
  try clear c17
  try clear c23
  try clear c27
  try clear hcz12_0
  try clear hcz12_1
  try clear hcz12_2
  try clear hcz12_3
  try clear hcz18_0
  try clear hcz18_1
  try clear hcz18_2
  try clear hcz18_3
  try clear hcz21_0
  try clear hcz24_0
  try clear hcz24_1
  try clear hcz24_2
  try clear hcz24_3
  try clear hcz28_0
  try clear hcz28_1
  try clear hcz28_2
  try clear hcz28_3
  try clear hfz12_0
  try clear hfz12_1
  try clear hfz12_2
  try clear hfz12_3
  try clear hfz18_0
  try clear hfz18_1
  try clear hfz18_2
  try clear hfz18_3
  try clear hfz21_0
  try clear hfz24_0
  try clear hfz24_1
  try clear hfz24_2
  try clear hfz24_3
  try clear hfz28_0
  try clear hfz28_1
  try clear hfz28_2
  try clear hfz28_3
  obtain ⟨kq, x30_4, rfl, HA, HJ4, BK286, BK287, HB⟩ := hcut
  cases kq with
  | zero => exact absurd HA.out (by simp [easementlaw17_SigCalls.j0])
  | succ kj4 =>
   have H := HA.out
   clear HA
   simp only [easementlaw17_SigCalls.j0] at H
   by_cases c30 : x30_4 = true
   ·subst c30
    have H1 : ((easementlaw17_awake.f kj4).bind fun t291 => (some t291)) = some r := by rw [if_pos rfl] at H; exact H
    clear H
    have H := H1
    clear H1
    replace H := Option.bind_eq_some_iff.mp H
    obtain ⟨t291, A310, H⟩ := H
    replace H : (some t291) = some r := H
    have A31 := Aside0.mk A310
    clear A310
    obtain rfl := Option.some.inj H
    go_wp2_with (first | ((with_reducible refine cB (f := 25) rfl ?_); refine goesL_ (some 31) rfl rfl Try.func25 (by kernel_rfl) rfl #[] rfl (by (try simp only [List.map_toArray, List.map_cons, List.map_nil]); first | done | rfl | (simp only [List.length_drop, List.length_take]; rfl)) ?_; (with_reducible refine (easementlaw17_awake.calls kj4  t291 _ A31.out).mono ?_); rintro e w32 ⟨rfl, hb⟩; refine ⟨_, rfl, ?_⟩; have n0_ := Aside0.mk (bL (g := gb286) (o := .cells #[.int .i64 a0_0, .slice A0_1 l0_1.length c0_1, .slice A0_2 l0_2.length c0_2, .slice A0_3 l0_3.length c0_3] 52 (0, 0)) (by (with_reducible repeat (first | refine bF ?_ _ | refine bG ?_ | refine bE ?_ _)); exact BK286.out) hb); have n1_ := Aside0.mk (bL (g := gb287) (o := .cells #[.slice A3_0 l3_0.length c3_0] 44 (0, 0)) (by (with_reducible repeat (first | refine bF ?_ _ | refine bG ?_ | refine bE ?_ _)); exact BK287.out) hb); have n2_ := Aside0.mk (bM (by repeat (first | (with_reducible first | exact HB.out | apply bC | apply bA | apply bB | refine bD ?_ GE286.out | refine bD ?_ GE287.out) | exact HB.out)) hb); clear BK286; clear BK287; clear HB; have BK286 := n0_; have BK287 := n1_; have HB := n2_; clear n0_ n1_ n2_; (try clear hb); (try clear hb2); (try clear hk); (try clear hi)))
    go_ret
    exact ⟨by first | rfl | (simp [errW_none, errW_some] <;> rfl) | (simp [*, errW_none, errW_some] <;> rfl), by repeat (first | (with_reducible first | exact HB.out | apply bC | apply bA | apply bB | refine bD ?_ GE286.out | refine bD ?_ GE287.out) | exact HB.out)⟩
   ·replace c30 := Bool.eq_false_iff.mpr c30
    subst c30
    have H1 : ((sig_Call.f kj4 a0_0 l0_1 l0_2 l0_3 l1 l2 l3_0).bind fun bt292 => ((easementref17_Call.f kj4 a0_0 l0_1 l0_2 l0_3 l1 l2 l3_0).bind fun bt296 => ((sig_Check.f a0_0 l0_1 l0_2 l0_3).bind fun t300 => ((easementref17_Check.f kj4 a0_0 l0_1 l0_2 l0_3).bind fun t301 => (if t300 = t301 then ((easementlaw16_Doc.f kj4 bt292.1).bind fun t302 => ((easementref16_Same.f kj4 t302 bt296.1).bind fun t305 => (if t305 = true then (if bt292.2 = bt296.2 then ((easementlaw17_awake.f kj4).bind fun t306 => (some t306)) else (some false)) else (some false)))) else (some false)))))) = some r := by rw [if_neg (show ¬ (false = true) by decide)] at H; exact H
    clear H
    have H := H1
    clear H1
    replace H := Option.bind_eq_some_iff.mp H
    obtain ⟨⟨t292, t295⟩, A330, H⟩ := H
    replace H : ((easementref17_Call.f kj4 a0_0 l0_1 l0_2 l0_3 l1 l2 l3_0).bind fun bt296 => ((sig_Check.f a0_0 l0_1 l0_2 l0_3).bind fun t300 => ((easementref17_Check.f kj4 a0_0 l0_1 l0_2 l0_3).bind fun t301 => (if t300 = t301 then ((easementlaw16_Doc.f kj4 t292).bind fun t302 => ((easementref16_Same.f kj4 t302 bt296.1).bind fun t305 => (if t305 = true then (if t295 = bt296.2 then ((easementlaw17_awake.f kj4).bind fun t306 => (some t306)) else (some false)) else (some false)))) else (some false))))) = some r := H
    have A33 := Aside0.mk A330
    clear A330
    replace H := Option.bind_eq_some_iff.mp H
    obtain ⟨⟨t296, t299⟩, A340, H⟩ := H
    replace H : ((sig_Check.f a0_0 l0_1 l0_2 l0_3).bind fun t300 => ((easementref17_Check.f kj4 a0_0 l0_1 l0_2 l0_3).bind fun t301 => (if t300 = t301 then ((easementlaw16_Doc.f kj4 t292).bind fun t302 => ((easementref16_Same.f kj4 t302 t296).bind fun t305 => (if t305 = true then (if t295 = t299 then ((easementlaw17_awake.f kj4).bind fun t306 => (some t306)) else (some false)) else (some false)))) else (some false)))) = some r := H
    have A34 := Aside0.mk A340
    clear A340
    replace H := Option.bind_eq_some_iff.mp H
    obtain ⟨t300, A350, H⟩ := H
    replace H : ((easementref17_Check.f kj4 a0_0 l0_1 l0_2 l0_3).bind fun t301 => (if t300 = t301 then ((easementlaw16_Doc.f kj4 t292).bind fun t302 => ((easementref16_Same.f kj4 t302 t296).bind fun t305 => (if t305 = true then (if t295 = t299 then ((easementlaw17_awake.f kj4).bind fun t306 => (some t306)) else (some false)) else (some false)))) else (some false))) = some r := H
    have A35 := Aside0.mk A350
    clear A350
    replace H := Option.bind_eq_some_iff.mp H
    obtain ⟨t301, A360, H⟩ := H
    replace H : (if t300 = t301 then ((easementlaw16_Doc.f kj4 t292).bind fun t302 => ((easementref16_Same.f kj4 t302 t296).bind fun t305 => (if t305 = true then (if t295 = t299 then ((easementlaw17_awake.f kj4).bind fun t306 => (some t306)) else (some false)) else (some false)))) else (some false)) = some r := H
    have A36 := Aside0.mk A360
    clear A360
    by_cases c37 : t300 = t301
    ·rw [if_pos c37] at H
     have c37b0 : (t300 == t301) = true := beq_iff_eq.mpr c37
     have c37b1 : (t300 != t301) = false := bne_eq_false_iff_eq.mpr c37
     clear c37
     replace H := Option.bind_eq_some_iff.mp H
     obtain ⟨t302, A380, H⟩ := H
     replace H : ((easementref16_Same.f kj4 t302 t296).bind fun t305 => (if t305 = true then (if t295 = t299 then ((easementlaw17_awake.f kj4).bind fun t306 => (some t306)) else (some false)) else (some false))) = some r := H
     have A38 := Aside0.mk A380
     clear A380
     replace H := Option.bind_eq_some_iff.mp H
     obtain ⟨t305, A390, H⟩ := H
     replace H : (if t305 = true then (if t295 = t299 then ((easementlaw17_awake.f kj4).bind fun t306 => (some t306)) else (some false)) else (some false)) = some r := H
     have A39 := Aside0.mk A390
     clear A390
     by_cases c40 : t305 = true
     ·subst c40
      have H1 : (if t295 = t299 then ((easementlaw17_awake.f kj4).bind fun t306 => (some t306)) else (some false)) = some r := by rw [if_pos rfl] at H; exact H
      clear H
      have H := H1
      clear H1
      by_cases c41 : t295 = t299
      ·rw [if_pos c41] at H
       have c41b0 : (t295 == t299) = true := beq_iff_eq.mpr c41
       have c41b1 : (t295 != t299) = false := bne_eq_false_iff_eq.mpr c41
       clear c41
       replace H := Option.bind_eq_some_iff.mp H
       obtain ⟨t306, A420, H⟩ := H
       replace H : (some t306) = some r := H
       have A42 := Aside0.mk A420
       clear A420
       obtain rfl := Option.some.inj H
       have hnb43 := NB286_287.out
       have hnc43 := NB287_286.out
       have hcz44_0 : wc.cell? ⟨gb286, 0, none⟩ = some (.int .i64 a0_0) := (bH BK286.out 0).trans rfl
       have hcz44_1 : wc.cell? ⟨gb286, 1, none⟩ = some (.slice A0_1 l0_1.length c0_1) := (bH BK286.out 1).trans rfl
       have hcz44_2 : wc.cell? ⟨gb286, 2, none⟩ = some (.slice A0_2 l0_2.length c0_2) := (bH BK286.out 2).trans rfl
       have hcz44_3 : wc.cell? ⟨gb286, 3, none⟩ = some (.slice A0_3 l0_3.length c0_3) := (bH BK286.out 3).trans rfl
       have hfz44_0 := bJ BK286.out 0
       have hfz44_1 := bJ BK286.out 1
       have hfz44_2 := bJ BK286.out 2
       have hfz44_3 := bJ BK286.out 3
       have hcz45_0 : wc.cell? ⟨gb287, 0, none⟩ = some (.slice A3_0 l3_0.length c3_0) := (bH BK287.out 0).trans rfl
       have hfz45_0 := bJ BK287.out 0
       try go_wp2_with (first | ((with_reducible refine cB (f := 44) rfl ?_); refine goesL_ (some 37) rfl rfl Try.func44 (by kernel_rfl) rfl #[.agg #[.int .i64 a0_0, .slice A0_1 l0_1.length c0_1, .slice A0_2 l0_2.length c0_2, .slice A0_3 l0_3.length c0_3], .slice A1 l1.length c1, .slice A2 l2.length c2, .agg #[.slice A3_0 l3_0.length c3_0]] rfl (by (try simp only [List.map_toArray, List.map_cons, List.map_nil]); first | done | rfl | (simp only [List.length_drop, List.length_take]; rfl)) ?_; (with_reducible refine (sig_Call.calls kj4 a0_0 _ _ l0_1 _ _ l0_2 _ _ l0_3 _ _ l1 _ _ l2 _ _ l3_0 t292 t295 _ ?side1 ?side2 ?side3 ?side4 ?side5 ?side6 ?side7 ?side8 ?side9 ?side10 ?side11 ?side12 A33.out).mono ?_); (case side1 => repeat (first | exact (Kd.bW HR0_1.out HB.out) | (with_reducible refine Kd.bV ?_ _) | (with_reducible refine Kd.bU ?_ _) | (with_reducible refine Kd.cA ?_))); (case side2 => exact HC0_1.out); (case side3 => repeat (first | exact (Kd.bW HR0_2.out HB.out) | (with_reducible refine Kd.bV ?_ _) | (with_reducible refine Kd.bU ?_ _) | (with_reducible refine Kd.cA ?_))); (case side4 => exact HC0_2.out); (case side5 => repeat (first | exact (Kd.bW HR0_3.out HB.out) | (with_reducible refine Kd.bV ?_ _) | (with_reducible refine Kd.bU ?_ _) | (with_reducible refine Kd.cA ?_))); (case side6 => exact HC0_3.out); (case side7 => repeat (first | exact (Kd.bW HR1.out HB.out) | (with_reducible refine Kd.bV ?_ _) | (with_reducible refine Kd.bU ?_ _) | (with_reducible refine Kd.cA ?_))); (case side8 => exact HC1.out); (case side9 => repeat (first | exact (Kd.bW HR2.out HB.out) | (with_reducible refine Kd.bV ?_ _) | (with_reducible refine Kd.bU ?_ _) | (with_reducible refine Kd.cA ?_))); (case side10 => exact HC2.out); (case side11 => repeat (first | exact (Kd.bW HR3_0.out HB.out) | (with_reducible refine Kd.bV ?_ _) | (with_reducible refine Kd.bU ?_ _) | (with_reducible refine Kd.cA ?_))); (case side12 => exact HC3_0.out); rintro e w46 ⟨v293, rfl, ho0, hb⟩; refine ⟨_, rfl, ?_⟩; have n0_ := Aside0.mk (Kd.R_lower ho0 (bK (by repeat (first | (with_reducible first | exact HB.out | apply bC | apply bA | apply bB | refine bD ?_ GE286.out | refine bD ?_ GE287.out) | exact HB.out)))); have n1_ := Aside0.mk (bL (g := gb286) (o := .cells #[.int .i64 a0_0, .slice A0_1 l0_1.length c0_1, .slice A0_2 l0_2.length c0_2, .slice A0_3 l0_3.length c0_3] 52 (0, 0)) (by (with_reducible repeat (first | refine bF ?_ _ | refine bG ?_ | refine bE ?_ _)); exact BK286.out) hb); have n2_ := Aside0.mk (bL (g := gb287) (o := .cells #[.slice A3_0 l3_0.length c3_0] 44 (0, 0)) (by (with_reducible repeat (first | refine bF ?_ _ | refine bG ?_ | refine bE ?_ _)); exact BK287.out) hb); have n3_ := Aside0.mk (bM (by repeat (first | (with_reducible first | exact HB.out | apply bC | apply bA | apply bB | refine bD ?_ GE286.out | refine bD ?_ GE287.out) | exact HB.out)) hb); clear BK286; clear BK287; clear HB; have HO294 := n0_; have BK286 := n1_; have BK287 := n2_; have HB := n3_; clear n0_ n1_ n2_ n3_; (try clear hb); (try clear hb2); (try clear hk); (try clear hi); (try clear ho0); have hcz47_0 : w46.cell? ⟨gb286, 0, none⟩ = some (.int .i64 a0_0) := (bH BK286.out 0).trans rfl; have hcz47_1 : w46.cell? ⟨gb286, 1, none⟩ = some (.slice A0_1 l0_1.length c0_1) := (bH BK286.out 1).trans rfl; have hcz47_2 : w46.cell? ⟨gb286, 2, none⟩ = some (.slice A0_2 l0_2.length c0_2) := (bH BK286.out 2).trans rfl; have hcz47_3 : w46.cell? ⟨gb286, 3, none⟩ = some (.slice A0_3 l0_3.length c0_3) := (bH BK286.out 3).trans rfl; have hfz47_0 := bJ BK286.out 0; have hfz47_1 := bJ BK286.out 1; have hfz47_2 := bJ BK286.out 2; have hfz47_3 := bJ BK286.out 3; have hcz48_0 : w46.cell? ⟨gb287, 0, none⟩ = some (.slice A3_0 l3_0.length c3_0) := (bH BK287.out 0).trans rfl; have hfz48_0 := bJ BK287.out 0) | ((with_reducible refine cB (f := 45) rfl ?_); refine goesL_ (some 45) rfl rfl Try.func45 (by kernel_rfl) rfl #[.agg #[.int .i64 a0_0, .slice A0_1 l0_1.length c0_1, .slice A0_2 l0_2.length c0_2, .slice A0_3 l0_3.length c0_3], .slice A1 l1.length c1, .slice A2 l2.length c2, .agg #[.slice A3_0 l3_0.length c3_0]] rfl (by (try simp only [List.map_toArray, List.map_cons, List.map_nil]); first | done | rfl | (simp only [List.length_drop, List.length_take]; rfl)) ?_; (with_reducible refine (easementref17_Call.calls kj4 a0_0 _ _ l0_1 _ _ l0_2 _ _ l0_3 _ _ l1 _ _ l2 _ _ l3_0 t296 t299 _ ?side1 ?side2 ?side3 ?side4 ?side5 ?side6 ?side7 ?side8 ?side9 ?side10 ?side11 ?side12 A34.out).mono ?_); (case side1 => repeat (first | exact (Kd.bW HR0_1.out HB.out) | (with_reducible refine Kd.bV ?_ _) | (with_reducible refine Kd.bU ?_ _) | (with_reducible refine Kd.cA ?_))); (case side2 => exact HC0_1.out); (case side3 => repeat (first | exact (Kd.bW HR0_2.out HB.out) | (with_reducible refine Kd.bV ?_ _) | (with_reducible refine Kd.bU ?_ _) | (with_reducible refine Kd.cA ?_))); (case side4 => exact HC0_2.out); (case side5 => repeat (first | exact (Kd.bW HR0_3.out HB.out) | (with_reducible refine Kd.bV ?_ _) | (with_reducible refine Kd.bU ?_ _) | (with_reducible refine Kd.cA ?_))); (case side6 => exact HC0_3.out); (case side7 => repeat (first | exact (Kd.bW HR1.out HB.out) | (with_reducible refine Kd.bV ?_ _) | (with_reducible refine Kd.bU ?_ _) | (with_reducible refine Kd.cA ?_))); (case side8 => exact HC1.out); (case side9 => repeat (first | exact (Kd.bW HR2.out HB.out) | (with_reducible refine Kd.bV ?_ _) | (with_reducible refine Kd.bU ?_ _) | (with_reducible refine Kd.cA ?_))); (case side10 => exact HC2.out); (case side11 => repeat (first | exact (Kd.bW HR3_0.out HB.out) | (with_reducible refine Kd.bV ?_ _) | (with_reducible refine Kd.bU ?_ _) | (with_reducible refine Kd.cA ?_))); (case side12 => exact HC3_0.out); rintro e w49 ⟨v297, rfl, ho0, hb⟩; refine ⟨_, rfl, ?_⟩; have n0_ := Aside0.mk (Kd.cC (by (with_reducible repeat (first | apply Kd.bR | apply Kd.bQ | apply Kd.bT)); exact HO294.out) hb); have n1_ := Aside0.mk (Kd.R_lower ho0 (bK (by repeat (first | (with_reducible first | exact HB.out | apply bC | apply bA | apply bB | refine bD ?_ GE286.out | refine bD ?_ GE287.out) | exact HB.out)))); have n2_ := Aside0.mk (bL (g := gb286) (o := .cells #[.int .i64 a0_0, .slice A0_1 l0_1.length c0_1, .slice A0_2 l0_2.length c0_2, .slice A0_3 l0_3.length c0_3] 52 (0, 0)) (by (with_reducible repeat (first | refine bF ?_ _ | refine bG ?_ | refine bE ?_ _)); exact BK286.out) hb); have n3_ := Aside0.mk (bL (g := gb287) (o := .cells #[.slice A3_0 l3_0.length c3_0] 44 (0, 0)) (by (with_reducible repeat (first | refine bF ?_ _ | refine bG ?_ | refine bE ?_ _)); exact BK287.out) hb); have n4_ := Aside0.mk (bM (by repeat (first | (with_reducible first | exact HB.out | apply bC | apply bA | apply bB | refine bD ?_ GE286.out | refine bD ?_ GE287.out) | exact HB.out)) hb); clear HO294; clear BK286; clear BK287; clear HB; have HO294 := n0_; have HO298 := n1_; have BK286 := n2_; have BK287 := n3_; have HB := n4_; clear n0_ n1_ n2_ n3_ n4_; (try clear hb); (try clear hb2); (try clear hk); (try clear hi); (try clear ho0)))
       have n0_ := Aside0.mk (Kd.bT HO294.out)
       have n1_ := Aside0.mk (Kd.bT HO298.out)
       have n2_ := Aside0.mk (bG BK286.out)
       have n3_ := Aside0.mk (bG BK287.out)
       have n4_ := Aside0.mk (bB HB.out)
       clear HO294
       clear HO298
       clear BK286
       clear BK287
       clear HB
       have HO294 := n0_
       have HO298 := n1_
       have BK286 := n2_
       have BK287 := n3_
       have HB := n4_
       clear n0_ n1_ n2_ n3_ n4_
       refine start_ (n := 20) (S := fun w' => w'.cell? ⟨gb286, 0, none⟩ = some (.int .i64 a0_0) ∧ w'.cell? ⟨gb286, 1, none⟩ = some (.slice A0_1 l0_1.length c0_1) ∧ w'.cell? ⟨gb286, 2, none⟩ = some (.slice A0_2 l0_2.length c0_2) ∧ w'.cell? ⟨gb286, 3, none⟩ = some (.slice A0_3 l0_3.length c0_3)) (ds := []) #[false, false, false, false, false, false, false, false, false, false, false, false, false, false, false, false, false, false, false, false] (by kernel_rfl) rfl rfl ⟨(bH BK286.out 0).trans rfl, (bH BK286.out 1).trans rfl, (bH BK286.out 2).trans rfl, (bH BK286.out 3).trans rfl⟩ (fun hHeld => ?_); refine with_tabW easementlaw17_SigCalls.tab5 easementlaw17_SigCalls.bits5 (fun HT_ HW_ => ?_)
       generalize w49.drew = w50 at HO294 HO298 BK286 BK287 HB hHeld ⊢
       refine take_ (i := 0) (N := some 48) (v := ?_) (a' := ?_) #[true, false, false, false, false, false, false, false, false, false, false, false, false, false, false, false, false, false, false, false] rfl rfl (take_ofW HT_.out HW_.out (by kernel_rfl)) (fun _ _ _ h => h) (Or.inl ⟨by rfl, ?_⟩) hHeld ?_ ?_
       rotate_left
       ·rintro w' ⟨s0, s1, s2, s3⟩
        go_simp
        with_reducible rfl
       rotate_left
       ·simp only [Act.put, sZ1, sZ2, sZ3, bN, bP]
        rfl
       refine take_ (i := 2) (N := some 50) (v := ?_) (a' := ?_) #[true, false, true, false, false, false, false, false, false, false, false, false, false, false, false, false, false, false, false, false] rfl rfl (take_ofW HT_.out HW_.out (by kernel_rfl)) (fun _ _ _ h => h) (Or.inl ⟨by rfl, ?_⟩) hHeld ?_ ?_
       rotate_left
       ·rintro w' ⟨s0, s1, s2, s3⟩
        go_simp
        with_reducible rfl
       rotate_left
       ·simp only [Act.put, sZ1, sZ2, sZ3, bN, bP]
        rfl
       refine one_ (i := 1) (N := some 49) #[true, true, true, false, false, false, false, false, false, false, false, false, false, false, false, false, false, false, false, false] rfl rfl (one_of HT_.out (by kernel_rfl)) (by decide) (fun K hK => ?_)
       refine goes_ Try.func46 (by kernel_rfl) rfl #[.agg #[.int .i64 a0_0, .slice A0_1 l0_1.length c0_1, .slice A0_2 l0_2.length c0_2, .slice A0_3 l0_3.length c0_3]] (by rfl) rfl rfl (by (try simp only [List.map_toArray, List.map_cons, List.map_nil]); first | done | rfl | (simp only [List.length_drop, List.length_take]; rfl)) ?_
       with_reducible refine (sig_Check.calls a0_0 _ _ l0_1 _ _ l0_2 _ _ l0_3 t300 _ ?side1 ?side2 ?side3 ?side4 ?side5 ?side6 A35.out).mono ?_
       (case side1 => repeat (first | exact (Kd.bW HR0_1.out HB.out) | (with_reducible refine Kd.bV ?_ _) | (with_reducible refine Kd.bU ?_ _) | (with_reducible refine Kd.cA ?_)))
       (case side2 => exact HC0_1.out)
       (case side3 => repeat (first | exact (Kd.bW HR0_2.out HB.out) | (with_reducible refine Kd.bV ?_ _) | (with_reducible refine Kd.bU ?_ _) | (with_reducible refine Kd.cA ?_)))
       (case side4 => exact HC0_2.out)
       (case side5 => repeat (first | exact (Kd.bW HR0_3.out HB.out) | (with_reducible refine Kd.bV ?_ _) | (with_reducible refine Kd.bU ?_ _) | (with_reducible refine Kd.cA ?_)))
       (case side6 => exact HC0_3.out)
       rintro e w51 ⟨rfl, hb⟩
       refine ⟨_, rfl, ?_⟩
       have n0_ := Aside0.mk (Kd.cC (by (with_reducible repeat (first | apply Kd.bR | apply Kd.bQ | apply Kd.bT)); exact HO294.out) hb)
       have n1_ := Aside0.mk (Kd.cC (by (with_reducible repeat (first | apply Kd.bR | apply Kd.bQ | apply Kd.bT)); exact HO298.out) hb)
       have n2_ := Aside0.mk (bL (g := gb286) (o := .cells #[.int .i64 a0_0, .slice A0_1 l0_1.length c0_1, .slice A0_2 l0_2.length c0_2, .slice A0_3 l0_3.length c0_3] 52 (0, 0)) (by (with_reducible repeat (first | refine bF ?_ _ | refine bG ?_ | refine bE ?_ _)); exact BK286.out) hb)
       have n3_ := Aside0.mk (bL (g := gb287) (o := .cells #[.slice A3_0 l3_0.length c3_0] 44 (0, 0)) (by (with_reducible repeat (first | refine bF ?_ _ | refine bG ?_ | refine bE ?_ _)); exact BK287.out) hb)
       have n4_ := Aside0.mk (bM (by repeat (first | (with_reducible first | exact HB.out | apply bC | apply bA | apply bB | refine bD ?_ GE286.out | refine bD ?_ GE287.out) | exact HB.out)) hb)
       clear HO294
       clear HO298
       clear BK286
       clear BK287
       clear HB
       have HO294 := n0_
       have HO298 := n1_
       have BK286 := n2_
       have BK287 := n3_
       have HB := n4_
       clear n0_ n1_ n2_ n3_ n4_
       (try clear hb)
       (try clear hb2)
       (try clear hk)
       (try clear hi)
       refine hK.out _ _ ⟨(bH BK286.out 0).trans rfl, (bH BK286.out 1).trans rfl, (bH BK286.out 2).trans rfl, (bH BK286.out 3).trans rfl⟩ (fun hHeld => ?_)
       clear hK K
       refine norm_ (a' := ?_) ?_ ?_
       rotate_left
       ·show Act.put _ (some 49) _ = _
        simp only [Act.put, sZ1, sZ2, sZ3, bN, bP]
        rfl
       refine one_ (i := 3) (N := some 51) #[true, true, true, true, false, false, false, false, false, false, false, false, false, false, false, false, false, false, false, false] rfl rfl (one_of HT_.out (by kernel_rfl)) (by decide) (fun K hK => ?_)
       refine goes_ Try.func47 (by kernel_rfl) rfl #[.agg #[.int .i64 a0_0, .slice A0_1 l0_1.length c0_1, .slice A0_2 l0_2.length c0_2, .slice A0_3 l0_3.length c0_3]] (by rfl) rfl rfl (by (try simp only [List.map_toArray, List.map_cons, List.map_nil]); first | done | rfl | (simp only [List.length_drop, List.length_take]; rfl)) ?_
       with_reducible refine (easementref17_Check.calls kj4 a0_0 _ _ l0_1 _ _ l0_2 _ _ l0_3 t301 _ ?side1 ?side2 ?side3 ?side4 ?side5 ?side6 A36.out).mono ?_
       (case side1 => repeat (first | exact (Kd.bW HR0_1.out HB.out) | (with_reducible refine Kd.bV ?_ _) | (with_reducible refine Kd.bU ?_ _) | (with_reducible refine Kd.cA ?_)))
       (case side2 => exact HC0_1.out)
       (case side3 => repeat (first | exact (Kd.bW HR0_2.out HB.out) | (with_reducible refine Kd.bV ?_ _) | (with_reducible refine Kd.bU ?_ _) | (with_reducible refine Kd.cA ?_)))
       (case side4 => exact HC0_2.out)
       (case side5 => repeat (first | exact (Kd.bW HR0_3.out HB.out) | (with_reducible refine Kd.bV ?_ _) | (with_reducible refine Kd.bU ?_ _) | (with_reducible refine Kd.cA ?_)))
       (case side6 => exact HC0_3.out)
       rintro e w52 ⟨rfl, hb⟩
       refine ⟨_, rfl, ?_⟩
       have n0_ := Aside0.mk (Kd.cC (by (with_reducible repeat (first | apply Kd.bR | apply Kd.bQ | apply Kd.bT)); exact HO294.out) hb)
       have n1_ := Aside0.mk (Kd.cC (by (with_reducible repeat (first | apply Kd.bR | apply Kd.bQ | apply Kd.bT)); exact HO298.out) hb)
       have n2_ := Aside0.mk (bL (g := gb286) (o := .cells #[.int .i64 a0_0, .slice A0_1 l0_1.length c0_1, .slice A0_2 l0_2.length c0_2, .slice A0_3 l0_3.length c0_3] 52 (0, 0)) (by (with_reducible repeat (first | refine bF ?_ _ | refine bG ?_ | refine bE ?_ _)); exact BK286.out) hb)
       have n3_ := Aside0.mk (bL (g := gb287) (o := .cells #[.slice A3_0 l3_0.length c3_0] 44 (0, 0)) (by (with_reducible repeat (first | refine bF ?_ _ | refine bG ?_ | refine bE ?_ _)); exact BK287.out) hb)
       have n4_ := Aside0.mk (bM (by repeat (first | (with_reducible first | exact HB.out | apply bC | apply bA | apply bB | refine bD ?_ GE286.out | refine bD ?_ GE287.out) | exact HB.out)) hb)
       clear HO294
       clear HO298
       clear BK286
       clear BK287
       clear HB
       have HO294 := n0_
       have HO298 := n1_
       have BK286 := n2_
       have BK287 := n3_
       have HB := n4_
       clear n0_ n1_ n2_ n3_ n4_
       (try clear hb)
       (try clear hb2)
       (try clear hk)
       (try clear hi)
       obtain ⟨Ao53, co53, eo53⟩ := Kd.R_slice HO294.out
       (first | subst eo53 | (injection eo53 with f1_ f2_ f3_; have f4_ := f1_.symm; have f5_ := f3_.symm; clear f1_ f2_ f3_; subst f4_; subst f5_))
       refine hK.out _ _ ⟨(bH BK286.out 0).trans rfl, (bH BK286.out 1).trans rfl, (bH BK286.out 2).trans rfl, (bH BK286.out 3).trans rfl⟩ (fun hHeld => ?_)
       clear hK K
       refine norm_ (a' := ?_) ?_ ?_
       rotate_left
       ·show Act.put _ (some 51) _ = _
        simp only [Act.put, sZ1, sZ2, sZ3, bN, bP]
        rfl
       refine bX (i := 4) (N := some 52) (v := ?_) (a' := ?_) #[true, true, true, true, true, false, false, false, false, false, false, false, false, false, false, false, false, false, false, false] rfl rfl (bS HT_.out (by kernel_rfl)) (fun _ _ _ h => h) (Or.inl ⟨by rfl, ?_⟩) ?_ ?_
       rotate_left
       ·intro w'
        go_simp
        with_reducible rfl
       rotate_left
       ·simp only [Act.put, sZ1, sZ2, sZ3, bN, bP]
        rfl
       refine bX (i := 5) (N := some 53) (v := ?_) (a' := ?_) #[true, true, true, true, true, true, false, false, false, false, false, false, false, false, false, false, false, false, false, false] rfl rfl (bS HT_.out (by kernel_rfl)) (fun _ _ _ h => h) (Or.inl ⟨by rfl, ?_⟩) ?_ ?_
       rotate_left
       ·intro w'
        go_simp
        with_reducible rfl
       rotate_left
       ·simp only [Act.put, sZ1, sZ2, sZ3, bN, bP]
        rfl
       refine bX (i := 6) (N := some 54) (v := ?_) (a' := ?_) #[true, true, true, true, true, true, true, false, false, false, false, false, false, false, false, false, false, false, false, false] rfl rfl (bS HT_.out (by kernel_rfl)) (fun _ _ _ h => h) (Or.inl ⟨by rfl, ?_⟩) ?_ ?_
       rotate_left
       ·intro w'
        go_simp
        with_reducible rfl
       rotate_left
       ·simp only [Act.put, sZ1, sZ2, sZ3, bN, bP]
        rfl
       refine bX (i := 8) (N := some 56) (v := ?_) (a' := ?_) #[true, true, true, true, true, true, true, false, true, false, false, false, false, false, false, false, false, false, false, false] rfl rfl (bS HT_.out (by kernel_rfl)) (fun _ _ _ h => h) (Or.inl ⟨by rfl, ?_⟩) ?_ ?_
       rotate_left
       ·intro w'
        go_simp
        with_reducible rfl
       rotate_left
       ·simp only [Act.put, sZ1, sZ2, sZ3, bN, bP]
        rfl
       refine one_ (i := 7) (N := some 55) #[true, true, true, true, true, true, true, true, true, false, false, false, false, false, false, false, false, false, false, false] rfl rfl (one_of HT_.out (by kernel_rfl)) (by decide) (fun K hK => ?_)
       refine goes_ Try.func39 (by kernel_rfl) rfl #[.slice Ao53 t292.length co53] (by rfl) rfl rfl (by (try simp only [List.map_toArray, List.map_cons, List.map_nil]); first | done | rfl | (simp only [List.length_drop, List.length_take]; rfl)) ?_
       with_reducible refine (easementlaw16_Doc.calls kj4 _ _ t292 t302 _ ?side1 ?side2 A38.out).mono ?_
       (case side1 => repeat (first | exact (Kd.cF HO294.out).2.2 | (with_reducible refine Kd.bV ?_ _) | (with_reducible refine Kd.bU ?_ _) | (with_reducible refine Kd.cA ?_)))
       (case side2 => exact (Kd.cF HO294.out).2.1)
       rintro e w54 ⟨v303, rfl, ho0, hb⟩
       refine ⟨_, rfl, ?_⟩
       have n0_ := Aside0.mk (Kd.cC (by (with_reducible repeat (first | apply Kd.bR | apply Kd.bQ | apply Kd.bT)); exact HO294.out) hb)
       have n1_ := Aside0.mk (Kd.R_elder' (by (with_reducible repeat (first | apply Kd.bR | apply Kd.bQ | apply Kd.bT)); exact HO298.out) (Kd.R_base ho0) hb)
       have n2_ := Aside0.mk (Kd.R_lower (Kd.R_new' ho0 (Kd.R_lt (by (with_reducible repeat (first | apply Kd.bR | apply Kd.bQ | apply Kd.bT)); exact HO298.out))) (bK (by repeat (first | (with_reducible first | exact HB.out | apply bC | apply bA | apply bB | refine bD ?_ GE286.out | refine bD ?_ GE287.out) | exact HB.out))))
       have n3_ := Aside0.mk (bL (g := gb286) (o := .cells #[.int .i64 a0_0, .slice A0_1 l0_1.length c0_1, .slice A0_2 l0_2.length c0_2, .slice A0_3 l0_3.length c0_3] 52 (0, 0)) (by (with_reducible repeat (first | refine bF ?_ _ | refine bG ?_ | refine bE ?_ _)); exact BK286.out) hb)
       have n4_ := Aside0.mk (bL (g := gb287) (o := .cells #[.slice A3_0 l3_0.length c3_0] 44 (0, 0)) (by (with_reducible repeat (first | refine bF ?_ _ | refine bG ?_ | refine bE ?_ _)); exact BK287.out) hb)
       have n5_ := Aside0.mk (bM (by repeat (first | (with_reducible first | exact HB.out | apply bC | apply bA | apply bB | refine bD ?_ GE286.out | refine bD ?_ GE287.out) | exact HB.out)) hb)
       clear HO294
       clear HO298
       clear BK286
       clear BK287
       clear HB
       have HO294 := n0_
       have HO298 := n1_
       have HO304 := n2_
       have BK286 := n3_
       have BK287 := n4_
       have HB := n5_
       clear n0_ n1_ n2_ n3_ n4_ n5_
       (try clear hb)
       (try clear hb2)
       (try clear hk)
       (try clear hi)
       (try clear ho0)
       obtain ⟨Ao55, co55, eo55⟩ := Kd.R_slice HO304.out
       (first | subst eo55 | (injection eo55 with f1_ f2_ f3_; have f4_ := f1_.symm; have f5_ := f3_.symm; clear f1_ f2_ f3_; subst f4_; subst f5_))
       obtain ⟨Ao56, co56, eo56⟩ := Kd.R_slice HO298.out
       (first | subst eo56 | (injection eo56 with f1_ f2_ f3_; have f4_ := f1_.symm; have f5_ := f3_.symm; clear f1_ f2_ f3_; subst f4_; subst f5_))
       refine hK.out _ _ ⟨(bH BK286.out 0).trans rfl, (bH BK286.out 1).trans rfl, (bH BK286.out 2).trans rfl, (bH BK286.out 3).trans rfl⟩ (fun hHeld => ?_)
       clear hK K
       refine norm_ (a' := ?_) ?_ ?_
       rotate_left
       ·show Act.put _ (some 55) _ = _
        simp only [Act.put, sZ1, sZ2, sZ3, bN, bP]
        rfl
       refine one_ (i := 9) (N := some 57) #[true, true, true, true, true, true, true, true, true, true, false, false, false, false, false, false, false, false, false, false] rfl rfl (one_of HT_.out (by kernel_rfl)) (by decide) (fun K hK => ?_)
       refine goes_ Try.func38 (by kernel_rfl) rfl #[.slice Ao55 t302.length co55, .slice Ao56 t296.length co56] (by rfl) rfl rfl (by (try simp only [List.map_toArray, List.map_cons, List.map_nil]); first | done | rfl | (simp only [List.length_drop, List.length_take]; rfl)) ?_
       with_reducible refine (easementref16_Same.calls kj4 _ _ t302 _ _ t296 true _ ?side1 ?side2 ?side3 ?side4 A39.out).mono ?_
       (case side1 => repeat (first | exact (Kd.cF HO304.out).2.2 | (with_reducible refine Kd.bV ?_ _) | (with_reducible refine Kd.bU ?_ _) | (with_reducible refine Kd.cA ?_)))
       (case side2 => exact (Kd.cF HO304.out).2.1)
       (case side3 => repeat (first | exact (Kd.cF HO298.out).2.2 | (with_reducible refine Kd.bV ?_ _) | (with_reducible refine Kd.bU ?_ _) | (with_reducible refine Kd.cA ?_)))
       (case side4 => exact (Kd.cF HO298.out).2.1)
       rintro e w' ⟨rfl, ⟨nd, rfl⟩⟩
       refine ⟨_, rfl, ?_⟩
       refine hK.out _ _ ⟨(bH BK286.out 0).trans rfl, (bH BK286.out 1).trans rfl, (bH BK286.out 2).trans rfl, (bH BK286.out 3).trans rfl⟩ (fun hHeld => ?_)
       clear hK K
       refine norm_ (a' := ?_) ?_ ?_
       rotate_left
       ·show Act.put _ (some 57) _ = _
        simp only [Act.put, sZ1, sZ2, sZ3, bN, bP]
        rfl
       refine bX (i := 10) (N := some 58) (v := ?_) (a' := ?_) #[true, true, true, true, true, true, true, true, true, true, true, false, false, false, false, false, false, false, false, false] rfl rfl (bS HT_.out (by kernel_rfl)) (fun _ _ _ h => h) (Or.inl ⟨by rfl, ?_⟩) ?_ ?_
       rotate_left
       ·intro w'
        go_simp
        with_reducible rfl
       rotate_left
       ·simp only [Act.put, sZ1, sZ2, sZ3, bN, bP]
        rfl
       refine bX (i := 11) (N := some 59) (v := ?_) (a' := ?_) #[true, true, true, true, true, true, true, true, true, true, true, true, false, false, false, false, false, false, false, false] rfl rfl (bS HT_.out (by kernel_rfl)) (fun _ _ _ h => h) (Or.inl ⟨by rfl, ?_⟩) ?_ ?_
       rotate_left
       ·intro w'
        go_simp
        with_reducible rfl
       rotate_left
       ·simp only [Act.put, sZ1, sZ2, sZ3, bN, bP]
        rfl
       refine bX (i := 12) (N := some 60) (v := ?_) (a' := ?_) #[true, true, true, true, true, true, true, true, true, true, true, true, true, false, false, false, false, false, false, false] rfl rfl (bS HT_.out (by kernel_rfl)) (fun _ _ _ h => h) (Or.inl ⟨by rfl, ?_⟩) ?_ ?_
       rotate_left
       ·intro w'
        go_simp
        with_reducible rfl
       rotate_left
       ·simp only [Act.put, sZ1, sZ2, sZ3, bN, bP]
        rfl
       refine bX (i := 13) (N := some 61) (v := ?_) (a' := ?_) #[true, true, true, true, true, true, true, true, true, true, true, true, true, true, false, false, false, false, false, false] rfl rfl (bS HT_.out (by kernel_rfl)) (fun _ _ _ h => h) (Or.inl ⟨by rfl, ?_⟩) ?_ ?_
       rotate_left
       ·intro w'
        go_simp
        with_reducible rfl
       rotate_left
       ·simp only [Act.put, sZ1, sZ2, sZ3, bN, bP]
        rfl
       refine bX (i := 14) (N := some 62) (v := ?_) (a' := ?_) #[true, true, true, true, true, true, true, true, true, true, true, true, true, true, true, false, false, false, false, false] rfl rfl (bS HT_.out (by kernel_rfl)) (fun _ _ _ h => h) (Or.inl ⟨by rfl, ?_⟩) ?_ ?_
       rotate_left
       ·intro w'
        go_simp
        with_reducible rfl
       rotate_left
       ·simp only [Act.put, sZ1, sZ2, sZ3, bN, bP]
        rfl
       refine bX (i := 15) (N := some 63) (v := ?_) (a' := ?_) #[true, true, true, true, true, true, true, true, true, true, true, true, true, true, true, true, false, false, false, false] rfl rfl (bS HT_.out (by kernel_rfl)) (fun _ _ _ h => h) (Or.inl ⟨by rfl, ?_⟩) ?_ ?_
       rotate_left
       ·intro w'
        go_simp
        with_reducible rfl
       rotate_left
       ·simp only [Act.put, sZ1, sZ2, sZ3, bN, bP]
        rfl
       refine bX (i := 16) (N := some 64) (v := ?_) (a' := ?_) #[true, true, true, true, true, true, true, true, true, true, true, true, true, true, true, true, true, false, false, false] rfl rfl (bS HT_.out (by kernel_rfl)) (fun _ _ _ h => h) (Or.inl ⟨by rfl, ?_⟩) ?_ ?_
       rotate_left
       ·intro w'
        go_simp
        with_reducible rfl
       rotate_left
       ·simp only [Act.put, sZ1, sZ2, sZ3, bN, bP]
        rfl
       refine one_ (i := 17) (N := some 65) #[true, true, true, true, true, true, true, true, true, true, true, true, true, true, true, true, true, true, false, false] rfl rfl (one_of HT_.out (by kernel_rfl)) (by decide) (fun K hK => ?_)
       refine goes_ Try.func25 (by kernel_rfl) rfl #[] (by rfl) rfl rfl (by (try simp only [List.map_toArray, List.map_cons, List.map_nil]); first | done | rfl | (simp only [List.length_drop, List.length_take]; rfl)) ?_
       with_reducible refine (easementlaw17_awake.calls kj4  t306 _ A42.out).mono ?_
       rintro e w57 ⟨rfl, hb⟩
       refine ⟨_, rfl, ?_⟩
       have n0_ := Aside0.mk (Kd.cC (by (with_reducible repeat (first | apply Kd.bR | apply Kd.bQ | apply Kd.bT)); exact HO294.out) hb)
       have n1_ := Aside0.mk (Kd.cC (by (with_reducible repeat (first | apply Kd.bR | apply Kd.bQ | apply Kd.bT)); exact HO298.out) hb)
       have n2_ := Aside0.mk (Kd.cC (by (with_reducible repeat (first | apply Kd.bR | apply Kd.bQ | apply Kd.bT)); exact HO304.out) hb)
       have n3_ := Aside0.mk (bL (g := gb286) (o := .cells #[.int .i64 a0_0, .slice A0_1 l0_1.length c0_1, .slice A0_2 l0_2.length c0_2, .slice A0_3 l0_3.length c0_3] 52 (0, 0)) (by (with_reducible repeat (first | refine bF ?_ _ | refine bG ?_ | refine bE ?_ _)); exact BK286.out) hb)
       have n4_ := Aside0.mk (bL (g := gb287) (o := .cells #[.slice A3_0 l3_0.length c3_0] 44 (0, 0)) (by (with_reducible repeat (first | refine bF ?_ _ | refine bG ?_ | refine bE ?_ _)); exact BK287.out) hb)
       have n5_ := Aside0.mk (bM (by repeat (first | (with_reducible first | exact HB.out | apply bC | apply bA | apply bB | refine bD ?_ GE286.out | refine bD ?_ GE287.out) | exact HB.out)) hb)
       clear HO294
       clear HO298
       clear HO304
       clear BK286
       clear BK287
       clear HB
       have HO294 := n0_
       have HO298 := n1_
       have HO304 := n2_
       have BK286 := n3_
       have BK287 := n4_
       have HB := n5_
       clear n0_ n1_ n2_ n3_ n4_ n5_
       (try clear hb)
       (try clear hb2)
       (try clear hk)
       (try clear hi)
       refine hK.out _ _ ⟨(bH BK286.out 0).trans rfl, (bH BK286.out 1).trans rfl, (bH BK286.out 2).trans rfl, (bH BK286.out 3).trans rfl⟩ (fun hHeld => ?_)
       clear hK K
       refine norm_ (a' := ?_) ?_ ?_
       rotate_left
       ·show Act.put _ (some 65) _ = _
        simp only [Act.put, sZ1, sZ2, sZ3, bN, bP]
        rfl
       refine bX (i := 18) (N := some 66) (v := ?_) (a' := ?_) #[true, true, true, true, true, true, true, true, true, true, true, true, true, true, true, true, true, true, true, false] rfl rfl (bS HT_.out (by kernel_rfl)) (fun _ _ _ h => h) (Or.inl ⟨by rfl, ?_⟩) ?_ ?_
       rotate_left
       ·intro w'
        go_simp
        with_reducible rfl
       rotate_left
       ·simp only [Act.put, sZ1, sZ2, sZ3, bN, bP]
        rfl
       refine bX (i := 19) (N := some 8) (v := ?_) (a' := ?_) #[true, true, true, true, true, true, true, true, true, true, true, true, true, true, true, true, true, true, true, true] rfl rfl (bS HT_.out (by kernel_rfl)) (fun _ _ _ h => h) (Or.inl ⟨by rfl, ?_⟩) ?_ ?_
       rotate_left
       ·intro w'
        go_simp
        with_reducible rfl
       rotate_left
       ·simp only [Act.put, sZ1, sZ2, sZ3, bN, bP]
        rfl
       refine done_ (done_of HT_.out (by kernel_rfl)) ?_
       try go_wp2
       go_ret
       exact ⟨by first | rfl | (simp [errW_none, errW_some] <;> rfl) | (simp [*, errW_none, errW_some] <;> rfl), by repeat (first | (with_reducible first | exact HB.out | apply bC | apply bA | apply bB | refine bD ?_ GE286.out | refine bD ?_ GE287.out) | exact HB.out)⟩
      ·rw [if_neg c41] at H
       have c41b0 : (t295 == t299) = false := beq_eq_false_iff_ne.mpr c41
       have c41b1 : (t295 != t299) = true := bne_iff_ne.mpr c41
       obtain rfl := Option.some.inj H
       have hnb58 := NB286_287.out
       have hnc58 := NB287_286.out
       have hcz59_0 : wc.cell? ⟨gb286, 0, none⟩ = some (.int .i64 a0_0) := (bH BK286.out 0).trans rfl
       have hcz59_1 : wc.cell? ⟨gb286, 1, none⟩ = some (.slice A0_1 l0_1.length c0_1) := (bH BK286.out 1).trans rfl
       have hcz59_2 : wc.cell? ⟨gb286, 2, none⟩ = some (.slice A0_2 l0_2.length c0_2) := (bH BK286.out 2).trans rfl
       have hcz59_3 : wc.cell? ⟨gb286, 3, none⟩ = some (.slice A0_3 l0_3.length c0_3) := (bH BK286.out 3).trans rfl
       have hfz59_0 := bJ BK286.out 0
       have hfz59_1 := bJ BK286.out 1
       have hfz59_2 := bJ BK286.out 2
       have hfz59_3 := bJ BK286.out 3
       have hcz60_0 : wc.cell? ⟨gb287, 0, none⟩ = some (.slice A3_0 l3_0.length c3_0) := (bH BK287.out 0).trans rfl
       have hfz60_0 := bJ BK287.out 0
       try go_wp2_with (first | ((with_reducible refine cB (f := 44) rfl ?_); refine goesL_ (some 37) rfl rfl Try.func44 (by kernel_rfl) rfl #[.agg #[.int .i64 a0_0, .slice A0_1 l0_1.length c0_1, .slice A0_2 l0_2.length c0_2, .slice A0_3 l0_3.length c0_3], .slice A1 l1.length c1, .slice A2 l2.length c2, .agg #[.slice A3_0 l3_0.length c3_0]] rfl (by (try simp only [List.map_toArray, List.map_cons, List.map_nil]); first | done | rfl | (simp only [List.length_drop, List.length_take]; rfl)) ?_; (with_reducible refine (sig_Call.calls kj4 a0_0 _ _ l0_1 _ _ l0_2 _ _ l0_3 _ _ l1 _ _ l2 _ _ l3_0 t292 t295 _ ?side1 ?side2 ?side3 ?side4 ?side5 ?side6 ?side7 ?side8 ?side9 ?side10 ?side11 ?side12 A33.out).mono ?_); (case side1 => repeat (first | exact (Kd.bW HR0_1.out HB.out) | (with_reducible refine Kd.bV ?_ _) | (with_reducible refine Kd.bU ?_ _) | (with_reducible refine Kd.cA ?_))); (case side2 => exact HC0_1.out); (case side3 => repeat (first | exact (Kd.bW HR0_2.out HB.out) | (with_reducible refine Kd.bV ?_ _) | (with_reducible refine Kd.bU ?_ _) | (with_reducible refine Kd.cA ?_))); (case side4 => exact HC0_2.out); (case side5 => repeat (first | exact (Kd.bW HR0_3.out HB.out) | (with_reducible refine Kd.bV ?_ _) | (with_reducible refine Kd.bU ?_ _) | (with_reducible refine Kd.cA ?_))); (case side6 => exact HC0_3.out); (case side7 => repeat (first | exact (Kd.bW HR1.out HB.out) | (with_reducible refine Kd.bV ?_ _) | (with_reducible refine Kd.bU ?_ _) | (with_reducible refine Kd.cA ?_))); (case side8 => exact HC1.out); (case side9 => repeat (first | exact (Kd.bW HR2.out HB.out) | (with_reducible refine Kd.bV ?_ _) | (with_reducible refine Kd.bU ?_ _) | (with_reducible refine Kd.cA ?_))); (case side10 => exact HC2.out); (case side11 => repeat (first | exact (Kd.bW HR3_0.out HB.out) | (with_reducible refine Kd.bV ?_ _) | (with_reducible refine Kd.bU ?_ _) | (with_reducible refine Kd.cA ?_))); (case side12 => exact HC3_0.out); rintro e w61 ⟨v293, rfl, ho0, hb⟩; refine ⟨_, rfl, ?_⟩; have n0_ := Aside0.mk (Kd.R_lower ho0 (bK (by repeat (first | (with_reducible first | exact HB.out | apply bC | apply bA | apply bB | refine bD ?_ GE286.out | refine bD ?_ GE287.out) | exact HB.out)))); have n1_ := Aside0.mk (bL (g := gb286) (o := .cells #[.int .i64 a0_0, .slice A0_1 l0_1.length c0_1, .slice A0_2 l0_2.length c0_2, .slice A0_3 l0_3.length c0_3] 52 (0, 0)) (by (with_reducible repeat (first | refine bF ?_ _ | refine bG ?_ | refine bE ?_ _)); exact BK286.out) hb); have n2_ := Aside0.mk (bL (g := gb287) (o := .cells #[.slice A3_0 l3_0.length c3_0] 44 (0, 0)) (by (with_reducible repeat (first | refine bF ?_ _ | refine bG ?_ | refine bE ?_ _)); exact BK287.out) hb); have n3_ := Aside0.mk (bM (by repeat (first | (with_reducible first | exact HB.out | apply bC | apply bA | apply bB | refine bD ?_ GE286.out | refine bD ?_ GE287.out) | exact HB.out)) hb); clear BK286; clear BK287; clear HB; have HO294 := n0_; have BK286 := n1_; have BK287 := n2_; have HB := n3_; clear n0_ n1_ n2_ n3_; (try clear hb); (try clear hb2); (try clear hk); (try clear hi); (try clear ho0); have hcz62_0 : w61.cell? ⟨gb286, 0, none⟩ = some (.int .i64 a0_0) := (bH BK286.out 0).trans rfl; have hcz62_1 : w61.cell? ⟨gb286, 1, none⟩ = some (.slice A0_1 l0_1.length c0_1) := (bH BK286.out 1).trans rfl; have hcz62_2 : w61.cell? ⟨gb286, 2, none⟩ = some (.slice A0_2 l0_2.length c0_2) := (bH BK286.out 2).trans rfl; have hcz62_3 : w61.cell? ⟨gb286, 3, none⟩ = some (.slice A0_3 l0_3.length c0_3) := (bH BK286.out 3).trans rfl; have hfz62_0 := bJ BK286.out 0; have hfz62_1 := bJ BK286.out 1; have hfz62_2 := bJ BK286.out 2; have hfz62_3 := bJ BK286.out 3; have hcz63_0 : w61.cell? ⟨gb287, 0, none⟩ = some (.slice A3_0 l3_0.length c3_0) := (bH BK287.out 0).trans rfl; have hfz63_0 := bJ BK287.out 0) | ((with_reducible refine cB (f := 45) rfl ?_); refine goesL_ (some 45) rfl rfl Try.func45 (by kernel_rfl) rfl #[.agg #[.int .i64 a0_0, .slice A0_1 l0_1.length c0_1, .slice A0_2 l0_2.length c0_2, .slice A0_3 l0_3.length c0_3], .slice A1 l1.length c1, .slice A2 l2.length c2, .agg #[.slice A3_0 l3_0.length c3_0]] rfl (by (try simp only [List.map_toArray, List.map_cons, List.map_nil]); first | done | rfl | (simp only [List.length_drop, List.length_take]; rfl)) ?_; (with_reducible refine (easementref17_Call.calls kj4 a0_0 _ _ l0_1 _ _ l0_2 _ _ l0_3 _ _ l1 _ _ l2 _ _ l3_0 t296 t299 _ ?side1 ?side2 ?side3 ?side4 ?side5 ?side6 ?side7 ?side8 ?side9 ?side10 ?side11 ?side12 A34.out).mono ?_); (case side1 => repeat (first | exact (Kd.bW HR0_1.out HB.out) | (with_reducible refine Kd.bV ?_ _) | (with_reducible refine Kd.bU ?_ _) | (with_reducible refine Kd.cA ?_))); (case side2 => exact HC0_1.out); (case side3 => repeat (first | exact (Kd.bW HR0_2.out HB.out) | (with_reducible refine Kd.bV ?_ _) | (with_reducible refine Kd.bU ?_ _) | (with_reducible refine Kd.cA ?_))); (case side4 => exact HC0_2.out); (case side5 => repeat (first | exact (Kd.bW HR0_3.out HB.out) | (with_reducible refine Kd.bV ?_ _) | (with_reducible refine Kd.bU ?_ _) | (with_reducible refine Kd.cA ?_))); (case side6 => exact HC0_3.out); (case side7 => repeat (first | exact (Kd.bW HR1.out HB.out) | (with_reducible refine Kd.bV ?_ _) | (with_reducible refine Kd.bU ?_ _) | (with_reducible refine Kd.cA ?_))); (case side8 => exact HC1.out); (case side9 => repeat (first | exact (Kd.bW HR2.out HB.out) | (with_reducible refine Kd.bV ?_ _) | (with_reducible refine Kd.bU ?_ _) | (with_reducible refine Kd.cA ?_))); (case side10 => exact HC2.out); (case side11 => repeat (first | exact (Kd.bW HR3_0.out HB.out) | (with_reducible refine Kd.bV ?_ _) | (with_reducible refine Kd.bU ?_ _) | (with_reducible refine Kd.cA ?_))); (case side12 => exact HC3_0.out); rintro e w64 ⟨v297, rfl, ho0, hb⟩; refine ⟨_, rfl, ?_⟩; have n0_ := Aside0.mk (Kd.cC (by (with_reducible repeat (first | apply Kd.bR | apply Kd.bQ | apply Kd.bT)); exact HO294.out) hb); have n1_ := Aside0.mk (Kd.R_lower ho0 (bK (by repeat (first | (with_reducible first | exact HB.out | apply bC | apply bA | apply bB | refine bD ?_ GE286.out | refine bD ?_ GE287.out) | exact HB.out)))); have n2_ := Aside0.mk (bL (g := gb286) (o := .cells #[.int .i64 a0_0, .slice A0_1 l0_1.length c0_1, .slice A0_2 l0_2.length c0_2, .slice A0_3 l0_3.length c0_3] 52 (0, 0)) (by (with_reducible repeat (first | refine bF ?_ _ | refine bG ?_ | refine bE ?_ _)); exact BK286.out) hb); have n3_ := Aside0.mk (bL (g := gb287) (o := .cells #[.slice A3_0 l3_0.length c3_0] 44 (0, 0)) (by (with_reducible repeat (first | refine bF ?_ _ | refine bG ?_ | refine bE ?_ _)); exact BK287.out) hb); have n4_ := Aside0.mk (bM (by repeat (first | (with_reducible first | exact HB.out | apply bC | apply bA | apply bB | refine bD ?_ GE286.out | refine bD ?_ GE287.out) | exact HB.out)) hb); clear HO294; clear BK286; clear BK287; clear HB; have HO294 := n0_; have HO298 := n1_; have BK286 := n2_; have BK287 := n3_; have HB := n4_; clear n0_ n1_ n2_ n3_ n4_; (try clear hb); (try clear hb2); (try clear hk); (try clear hi); (try clear ho0)))
       have n0_ := Aside0.mk (Kd.bT HO294.out)
       have n1_ := Aside0.mk (Kd.bT HO298.out)
       have n2_ := Aside0.mk (bG BK286.out)
       have n3_ := Aside0.mk (bG BK287.out)
       have n4_ := Aside0.mk (bB HB.out)
       clear HO294
       clear HO298
       clear BK286
       clear BK287
       clear HB
       have HO294 := n0_
       have HO298 := n1_
       have BK286 := n2_
       have BK287 := n3_
       have HB := n4_
       clear n0_ n1_ n2_ n3_ n4_
       refine start_ (n := 20) (S := fun w' => w'.cell? ⟨gb286, 0, none⟩ = some (.int .i64 a0_0) ∧ w'.cell? ⟨gb286, 1, none⟩ = some (.slice A0_1 l0_1.length c0_1) ∧ w'.cell? ⟨gb286, 2, none⟩ = some (.slice A0_2 l0_2.length c0_2) ∧ w'.cell? ⟨gb286, 3, none⟩ = some (.slice A0_3 l0_3.length c0_3)) (ds := []) #[false, false, false, false, false, false, false, false, false, false, false, false, false, false, false, false, false, false, false, false] (by kernel_rfl) rfl rfl ⟨(bH BK286.out 0).trans rfl, (bH BK286.out 1).trans rfl, (bH BK286.out 2).trans rfl, (bH BK286.out 3).trans rfl⟩ (fun hHeld => ?_); refine with_tabW easementlaw17_SigCalls.tab5 easementlaw17_SigCalls.bits5 (fun HT_ HW_ => ?_)
       generalize w64.drew = w65 at HO294 HO298 BK286 BK287 HB hHeld ⊢
       refine take_ (i := 0) (N := some 48) (v := ?_) (a' := ?_) #[true, false, false, false, false, false, false, false, false, false, false, false, false, false, false, false, false, false, false, false] rfl rfl (take_ofW HT_.out HW_.out (by kernel_rfl)) (fun _ _ _ h => h) (Or.inl ⟨by rfl, ?_⟩) hHeld ?_ ?_
       rotate_left
       ·rintro w' ⟨s0, s1, s2, s3⟩
        go_simp
        with_reducible rfl
       rotate_left
       ·simp only [Act.put, sZ1, sZ2, sZ3, bN, bP]
        rfl
       refine take_ (i := 2) (N := some 50) (v := ?_) (a' := ?_) #[true, false, true, false, false, false, false, false, false, false, false, false, false, false, false, false, false, false, false, false] rfl rfl (take_ofW HT_.out HW_.out (by kernel_rfl)) (fun _ _ _ h => h) (Or.inl ⟨by rfl, ?_⟩) hHeld ?_ ?_
       rotate_left
       ·rintro w' ⟨s0, s1, s2, s3⟩
        go_simp
        with_reducible rfl
       rotate_left
       ·simp only [Act.put, sZ1, sZ2, sZ3, bN, bP]
        rfl
       refine one_ (i := 1) (N := some 49) #[true, true, true, false, false, false, false, false, false, false, false, false, false, false, false, false, false, false, false, false] rfl rfl (one_of HT_.out (by kernel_rfl)) (by decide) (fun K hK => ?_)
       refine goes_ Try.func46 (by kernel_rfl) rfl #[.agg #[.int .i64 a0_0, .slice A0_1 l0_1.length c0_1, .slice A0_2 l0_2.length c0_2, .slice A0_3 l0_3.length c0_3]] (by rfl) rfl rfl (by (try simp only [List.map_toArray, List.map_cons, List.map_nil]); first | done | rfl | (simp only [List.length_drop, List.length_take]; rfl)) ?_
       with_reducible refine (sig_Check.calls a0_0 _ _ l0_1 _ _ l0_2 _ _ l0_3 t300 _ ?side1 ?side2 ?side3 ?side4 ?side5 ?side6 A35.out).mono ?_
       (case side1 => repeat (first | exact (Kd.bW HR0_1.out HB.out) | (with_reducible refine Kd.bV ?_ _) | (with_reducible refine Kd.bU ?_ _) | (with_reducible refine Kd.cA ?_)))
       (case side2 => exact HC0_1.out)
       (case side3 => repeat (first | exact (Kd.bW HR0_2.out HB.out) | (with_reducible refine Kd.bV ?_ _) | (with_reducible refine Kd.bU ?_ _) | (with_reducible refine Kd.cA ?_)))
       (case side4 => exact HC0_2.out)
       (case side5 => repeat (first | exact (Kd.bW HR0_3.out HB.out) | (with_reducible refine Kd.bV ?_ _) | (with_reducible refine Kd.bU ?_ _) | (with_reducible refine Kd.cA ?_)))
       (case side6 => exact HC0_3.out)
       rintro e w66 ⟨rfl, hb⟩
       refine ⟨_, rfl, ?_⟩
       have n0_ := Aside0.mk (Kd.cC (by (with_reducible repeat (first | apply Kd.bR | apply Kd.bQ | apply Kd.bT)); exact HO294.out) hb)
       have n1_ := Aside0.mk (Kd.cC (by (with_reducible repeat (first | apply Kd.bR | apply Kd.bQ | apply Kd.bT)); exact HO298.out) hb)
       have n2_ := Aside0.mk (bL (g := gb286) (o := .cells #[.int .i64 a0_0, .slice A0_1 l0_1.length c0_1, .slice A0_2 l0_2.length c0_2, .slice A0_3 l0_3.length c0_3] 52 (0, 0)) (by (with_reducible repeat (first | refine bF ?_ _ | refine bG ?_ | refine bE ?_ _)); exact BK286.out) hb)
       have n3_ := Aside0.mk (bL (g := gb287) (o := .cells #[.slice A3_0 l3_0.length c3_0] 44 (0, 0)) (by (with_reducible repeat (first | refine bF ?_ _ | refine bG ?_ | refine bE ?_ _)); exact BK287.out) hb)
       have n4_ := Aside0.mk (bM (by repeat (first | (with_reducible first | exact HB.out | apply bC | apply bA | apply bB | refine bD ?_ GE286.out | refine bD ?_ GE287.out) | exact HB.out)) hb)
       clear HO294
       clear HO298
       clear BK286
       clear BK287
       clear HB
       have HO294 := n0_
       have HO298 := n1_
       have BK286 := n2_
       have BK287 := n3_
       have HB := n4_
       clear n0_ n1_ n2_ n3_ n4_
       (try clear hb)
       (try clear hb2)
       (try clear hk)
       (try clear hi)
       refine hK.out _ _ ⟨(bH BK286.out 0).trans rfl, (bH BK286.out 1).trans rfl, (bH BK286.out 2).trans rfl, (bH BK286.out 3).trans rfl⟩ (fun hHeld => ?_)
       clear hK K
       refine norm_ (a' := ?_) ?_ ?_
       rotate_left
       ·show Act.put _ (some 49) _ = _
        simp only [Act.put, sZ1, sZ2, sZ3, bN, bP]
        rfl
       refine one_ (i := 3) (N := some 51) #[true, true, true, true, false, false, false, false, false, false, false, false, false, false, false, false, false, false, false, false] rfl rfl (one_of HT_.out (by kernel_rfl)) (by decide) (fun K hK => ?_)
       refine goes_ Try.func47 (by kernel_rfl) rfl #[.agg #[.int .i64 a0_0, .slice A0_1 l0_1.length c0_1, .slice A0_2 l0_2.length c0_2, .slice A0_3 l0_3.length c0_3]] (by rfl) rfl rfl (by (try simp only [List.map_toArray, List.map_cons, List.map_nil]); first | done | rfl | (simp only [List.length_drop, List.length_take]; rfl)) ?_
       with_reducible refine (easementref17_Check.calls kj4 a0_0 _ _ l0_1 _ _ l0_2 _ _ l0_3 t301 _ ?side1 ?side2 ?side3 ?side4 ?side5 ?side6 A36.out).mono ?_
       (case side1 => repeat (first | exact (Kd.bW HR0_1.out HB.out) | (with_reducible refine Kd.bV ?_ _) | (with_reducible refine Kd.bU ?_ _) | (with_reducible refine Kd.cA ?_)))
       (case side2 => exact HC0_1.out)
       (case side3 => repeat (first | exact (Kd.bW HR0_2.out HB.out) | (with_reducible refine Kd.bV ?_ _) | (with_reducible refine Kd.bU ?_ _) | (with_reducible refine Kd.cA ?_)))
       (case side4 => exact HC0_2.out)
       (case side5 => repeat (first | exact (Kd.bW HR0_3.out HB.out) | (with_reducible refine Kd.bV ?_ _) | (with_reducible refine Kd.bU ?_ _) | (with_reducible refine Kd.cA ?_)))
       (case side6 => exact HC0_3.out)
       rintro e w67 ⟨rfl, hb⟩
       refine ⟨_, rfl, ?_⟩
       have n0_ := Aside0.mk (Kd.cC (by (with_reducible repeat (first | apply Kd.bR | apply Kd.bQ | apply Kd.bT)); exact HO294.out) hb)
       have n1_ := Aside0.mk (Kd.cC (by (with_reducible repeat (first | apply Kd.bR | apply Kd.bQ | apply Kd.bT)); exact HO298.out) hb)
       have n2_ := Aside0.mk (bL (g := gb286) (o := .cells #[.int .i64 a0_0, .slice A0_1 l0_1.length c0_1, .slice A0_2 l0_2.length c0_2, .slice A0_3 l0_3.length c0_3] 52 (0, 0)) (by (with_reducible repeat (first | refine bF ?_ _ | refine bG ?_ | refine bE ?_ _)); exact BK286.out) hb)
       have n3_ := Aside0.mk (bL (g := gb287) (o := .cells #[.slice A3_0 l3_0.length c3_0] 44 (0, 0)) (by (with_reducible repeat (first | refine bF ?_ _ | refine bG ?_ | refine bE ?_ _)); exact BK287.out) hb)
       have n4_ := Aside0.mk (bM (by repeat (first | (with_reducible first | exact HB.out | apply bC | apply bA | apply bB | refine bD ?_ GE286.out | refine bD ?_ GE287.out) | exact HB.out)) hb)
       clear HO294
       clear HO298
       clear BK286
       clear BK287
       clear HB
       have HO294 := n0_
       have HO298 := n1_
       have BK286 := n2_
       have BK287 := n3_
       have HB := n4_
       clear n0_ n1_ n2_ n3_ n4_
       (try clear hb)
       (try clear hb2)
       (try clear hk)
       (try clear hi)
       obtain ⟨Ao68, co68, eo68⟩ := Kd.R_slice HO294.out
       (first | subst eo68 | (injection eo68 with f1_ f2_ f3_; have f4_ := f1_.symm; have f5_ := f3_.symm; clear f1_ f2_ f3_; subst f4_; subst f5_))
       refine hK.out _ _ ⟨(bH BK286.out 0).trans rfl, (bH BK286.out 1).trans rfl, (bH BK286.out 2).trans rfl, (bH BK286.out 3).trans rfl⟩ (fun hHeld => ?_)
       clear hK K
       refine norm_ (a' := ?_) ?_ ?_
       rotate_left
       ·show Act.put _ (some 51) _ = _
        simp only [Act.put, sZ1, sZ2, sZ3, bN, bP]
        rfl
       refine bX (i := 4) (N := some 52) (v := ?_) (a' := ?_) #[true, true, true, true, true, false, false, false, false, false, false, false, false, false, false, false, false, false, false, false] rfl rfl (bS HT_.out (by kernel_rfl)) (fun _ _ _ h => h) (Or.inl ⟨by rfl, ?_⟩) ?_ ?_
       rotate_left
       ·intro w'
        go_simp
        with_reducible rfl
       rotate_left
       ·simp only [Act.put, sZ1, sZ2, sZ3, bN, bP]
        rfl
       refine bX (i := 5) (N := some 53) (v := ?_) (a' := ?_) #[true, true, true, true, true, true, false, false, false, false, false, false, false, false, false, false, false, false, false, false] rfl rfl (bS HT_.out (by kernel_rfl)) (fun _ _ _ h => h) (Or.inl ⟨by rfl, ?_⟩) ?_ ?_
       rotate_left
       ·intro w'
        go_simp
        with_reducible rfl
       rotate_left
       ·simp only [Act.put, sZ1, sZ2, sZ3, bN, bP]
        rfl
       refine bX (i := 6) (N := some 54) (v := ?_) (a' := ?_) #[true, true, true, true, true, true, true, false, false, false, false, false, false, false, false, false, false, false, false, false] rfl rfl (bS HT_.out (by kernel_rfl)) (fun _ _ _ h => h) (Or.inl ⟨by rfl, ?_⟩) ?_ ?_
       rotate_left
       ·intro w'
        go_simp
        with_reducible rfl
       rotate_left
       ·simp only [Act.put, sZ1, sZ2, sZ3, bN, bP]
        rfl
       refine bX (i := 8) (N := some 56) (v := ?_) (a' := ?_) #[true, true, true, true, true, true, true, false, true, false, false, false, false, false, false, false, false, false, false, false] rfl rfl (bS HT_.out (by kernel_rfl)) (fun _ _ _ h => h) (Or.inl ⟨by rfl, ?_⟩) ?_ ?_
       rotate_left
       ·intro w'
        go_simp
        with_reducible rfl
       rotate_left
       ·simp only [Act.put, sZ1, sZ2, sZ3, bN, bP]
        rfl
       refine one_ (i := 7) (N := some 55) #[true, true, true, true, true, true, true, true, true, false, false, false, false, false, false, false, false, false, false, false] rfl rfl (one_of HT_.out (by kernel_rfl)) (by decide) (fun K hK => ?_)
       refine goes_ Try.func39 (by kernel_rfl) rfl #[.slice Ao68 t292.length co68] (by rfl) rfl rfl (by (try simp only [List.map_toArray, List.map_cons, List.map_nil]); first | done | rfl | (simp only [List.length_drop, List.length_take]; rfl)) ?_
       with_reducible refine (easementlaw16_Doc.calls kj4 _ _ t292 t302 _ ?side1 ?side2 A38.out).mono ?_
       (case side1 => repeat (first | exact (Kd.cF HO294.out).2.2 | (with_reducible refine Kd.bV ?_ _) | (with_reducible refine Kd.bU ?_ _) | (with_reducible refine Kd.cA ?_)))
       (case side2 => exact (Kd.cF HO294.out).2.1)
       rintro e w69 ⟨v303, rfl, ho0, hb⟩
       refine ⟨_, rfl, ?_⟩
       have n0_ := Aside0.mk (Kd.cC (by (with_reducible repeat (first | apply Kd.bR | apply Kd.bQ | apply Kd.bT)); exact HO294.out) hb)
       have n1_ := Aside0.mk (Kd.R_elder' (by (with_reducible repeat (first | apply Kd.bR | apply Kd.bQ | apply Kd.bT)); exact HO298.out) (Kd.R_base ho0) hb)
       have n2_ := Aside0.mk (Kd.R_lower (Kd.R_new' ho0 (Kd.R_lt (by (with_reducible repeat (first | apply Kd.bR | apply Kd.bQ | apply Kd.bT)); exact HO298.out))) (bK (by repeat (first | (with_reducible first | exact HB.out | apply bC | apply bA | apply bB | refine bD ?_ GE286.out | refine bD ?_ GE287.out) | exact HB.out))))
       have n3_ := Aside0.mk (bL (g := gb286) (o := .cells #[.int .i64 a0_0, .slice A0_1 l0_1.length c0_1, .slice A0_2 l0_2.length c0_2, .slice A0_3 l0_3.length c0_3] 52 (0, 0)) (by (with_reducible repeat (first | refine bF ?_ _ | refine bG ?_ | refine bE ?_ _)); exact BK286.out) hb)
       have n4_ := Aside0.mk (bL (g := gb287) (o := .cells #[.slice A3_0 l3_0.length c3_0] 44 (0, 0)) (by (with_reducible repeat (first | refine bF ?_ _ | refine bG ?_ | refine bE ?_ _)); exact BK287.out) hb)
       have n5_ := Aside0.mk (bM (by repeat (first | (with_reducible first | exact HB.out | apply bC | apply bA | apply bB | refine bD ?_ GE286.out | refine bD ?_ GE287.out) | exact HB.out)) hb)
       clear HO294
       clear HO298
       clear BK286
       clear BK287
       clear HB
       have HO294 := n0_
       have HO298 := n1_
       have HO304 := n2_
       have BK286 := n3_
       have BK287 := n4_
       have HB := n5_
       clear n0_ n1_ n2_ n3_ n4_ n5_
       (try clear hb)
       (try clear hb2)
       (try clear hk)
       (try clear hi)
       (try clear ho0)
       obtain ⟨Ao70, co70, eo70⟩ := Kd.R_slice HO304.out
       (first | subst eo70 | (injection eo70 with f1_ f2_ f3_; have f4_ := f1_.symm; have f5_ := f3_.symm; clear f1_ f2_ f3_; subst f4_; subst f5_))
       obtain ⟨Ao71, co71, eo71⟩ := Kd.R_slice HO298.out
       (first | subst eo71 | (injection eo71 with f1_ f2_ f3_; have f4_ := f1_.symm; have f5_ := f3_.symm; clear f1_ f2_ f3_; subst f4_; subst f5_))
       refine hK.out _ _ ⟨(bH BK286.out 0).trans rfl, (bH BK286.out 1).trans rfl, (bH BK286.out 2).trans rfl, (bH BK286.out 3).trans rfl⟩ (fun hHeld => ?_)
       clear hK K
       refine norm_ (a' := ?_) ?_ ?_
       rotate_left
       ·show Act.put _ (some 55) _ = _
        simp only [Act.put, sZ1, sZ2, sZ3, bN, bP]
        rfl
       refine one_ (i := 9) (N := some 57) #[true, true, true, true, true, true, true, true, true, true, false, false, false, false, false, false, false, false, false, false] rfl rfl (one_of HT_.out (by kernel_rfl)) (by decide) (fun K hK => ?_)
       refine goes_ Try.func38 (by kernel_rfl) rfl #[.slice Ao70 t302.length co70, .slice Ao71 t296.length co71] (by rfl) rfl rfl (by (try simp only [List.map_toArray, List.map_cons, List.map_nil]); first | done | rfl | (simp only [List.length_drop, List.length_take]; rfl)) ?_
       with_reducible refine (easementref16_Same.calls kj4 _ _ t302 _ _ t296 true _ ?side1 ?side2 ?side3 ?side4 A39.out).mono ?_
       (case side1 => repeat (first | exact (Kd.cF HO304.out).2.2 | (with_reducible refine Kd.bV ?_ _) | (with_reducible refine Kd.bU ?_ _) | (with_reducible refine Kd.cA ?_)))
       (case side2 => exact (Kd.cF HO304.out).2.1)
       (case side3 => repeat (first | exact (Kd.cF HO298.out).2.2 | (with_reducible refine Kd.bV ?_ _) | (with_reducible refine Kd.bU ?_ _) | (with_reducible refine Kd.cA ?_)))
       (case side4 => exact (Kd.cF HO298.out).2.1)
       rintro e w' ⟨rfl, ⟨nd, rfl⟩⟩
       refine ⟨_, rfl, ?_⟩
       refine hK.out _ _ ⟨(bH BK286.out 0).trans rfl, (bH BK286.out 1).trans rfl, (bH BK286.out 2).trans rfl, (bH BK286.out 3).trans rfl⟩ (fun hHeld => ?_)
       clear hK K
       refine norm_ (a' := ?_) ?_ ?_
       rotate_left
       ·show Act.put _ (some 57) _ = _
        simp only [Act.put, sZ1, sZ2, sZ3, bN, bP]
        rfl
       refine bX (i := 10) (N := some 58) (v := ?_) (a' := ?_) #[true, true, true, true, true, true, true, true, true, true, true, false, false, false, false, false, false, false, false, false] rfl rfl (bS HT_.out (by kernel_rfl)) (fun _ _ _ h => h) (Or.inl ⟨by rfl, ?_⟩) ?_ ?_
       rotate_left
       ·intro w'
        go_simp
        with_reducible rfl
       rotate_left
       ·simp only [Act.put, sZ1, sZ2, sZ3, bN, bP]
        rfl
       refine bX (i := 11) (N := some 59) (v := ?_) (a' := ?_) #[true, true, true, true, true, true, true, true, true, true, true, true, false, false, false, false, false, false, false, false] rfl rfl (bS HT_.out (by kernel_rfl)) (fun _ _ _ h => h) (Or.inl ⟨by rfl, ?_⟩) ?_ ?_
       rotate_left
       ·intro w'
        go_simp
        with_reducible rfl
       rotate_left
       ·simp only [Act.put, sZ1, sZ2, sZ3, bN, bP]
        rfl
       refine bX (i := 12) (N := some 60) (v := ?_) (a' := ?_) #[true, true, true, true, true, true, true, true, true, true, true, true, true, false, false, false, false, false, false, false] rfl rfl (bS HT_.out (by kernel_rfl)) (fun _ _ _ h => h) (Or.inl ⟨by rfl, ?_⟩) ?_ ?_
       rotate_left
       ·intro w'
        go_simp
        with_reducible rfl
       rotate_left
       ·simp only [Act.put, sZ1, sZ2, sZ3, bN, bP]
        rfl
       refine bX (i := 13) (N := some 61) (v := ?_) (a' := ?_) #[true, true, true, true, true, true, true, true, true, true, true, true, true, true, false, false, false, false, false, false] rfl rfl (bS HT_.out (by kernel_rfl)) (fun _ _ _ h => h) (Or.inl ⟨by rfl, ?_⟩) ?_ ?_
       rotate_left
       ·intro w'
        go_simp
        with_reducible rfl
       rotate_left
       ·simp only [Act.put, sZ1, sZ2, sZ3, bN, bP]
        rfl
       refine bX (i := 14) (N := some 62) (v := ?_) (a' := ?_) #[true, true, true, true, true, true, true, true, true, true, true, true, true, true, true, false, false, false, false, false] rfl rfl (bS HT_.out (by kernel_rfl)) (fun _ _ _ h => h) (Or.inl ⟨by rfl, ?_⟩) ?_ ?_
       rotate_left
       ·intro w'
        go_simp
        with_reducible rfl
       rotate_left
       ·simp only [Act.put, sZ1, sZ2, sZ3, bN, bP]
        rfl
       refine bX (i := 15) (N := some 63) (v := ?_) (a' := ?_) #[true, true, true, true, true, true, true, true, true, true, true, true, true, true, true, true, false, false, false, false] rfl rfl (bS HT_.out (by kernel_rfl)) (fun _ _ _ h => h) (Or.inl ⟨by rfl, ?_⟩) ?_ ?_
       rotate_left
       ·intro w'
        go_simp
        with_reducible rfl
       rotate_left
       ·simp only [Act.put, sZ1, sZ2, sZ3, bN, bP]
        rfl
       refine bX (i := 16) (N := some 64) (v := ?_) (a' := ?_) #[true, true, true, true, true, true, true, true, true, true, true, true, true, true, true, true, true, false, false, false] rfl rfl (bS HT_.out (by kernel_rfl)) (fun _ _ _ h => h) (Or.inl ⟨by rfl, ?_⟩) ?_ ?_
       rotate_left
       ·intro w'
        go_simp
        with_reducible rfl
       rotate_left
       ·simp only [Act.put, sZ1, sZ2, sZ3, bN, bP]
        rfl
       refine bX (i := 17) (N := some 65) (v := undef) (a' := ?_) #[true, true, true, true, true, true, true, true, true, true, true, true, true, true, true, true, true, true, false, false] rfl rfl (bS HT_.out (by kernel_rfl)) (fun _ _ _ h => h) (Or.inr ⟨by rfl, rfl⟩) ?_ ?_
       rotate_left
       ·simp only [Act.put, sZ1, sZ2, sZ3, bN, bP]
        rfl
       refine bX (i := 18) (N := some 66) (v := ?_) (a' := ?_) #[true, true, true, true, true, true, true, true, true, true, true, true, true, true, true, true, true, true, true, false] rfl rfl (bS HT_.out (by kernel_rfl)) (fun _ _ _ h => h) (Or.inl ⟨by rfl, ?_⟩) ?_ ?_
       rotate_left
       ·intro w'
        go_simp
        with_reducible rfl
       rotate_left
       ·simp only [Act.put, sZ1, sZ2, sZ3, bN, bP]
        rfl
       refine bX (i := 19) (N := some 8) (v := ?_) (a' := ?_) #[true, true, true, true, true, true, true, true, true, true, true, true, true, true, true, true, true, true, true, true] rfl rfl (bS HT_.out (by kernel_rfl)) (fun _ _ _ h => h) (Or.inl ⟨by rfl, ?_⟩) ?_ ?_
       rotate_left
       ·intro w'
        go_simp
        with_reducible rfl
       rotate_left
       ·simp only [Act.put, sZ1, sZ2, sZ3, bN, bP]
        rfl
       refine done_ (done_of HT_.out (by kernel_rfl)) ?_
       try go_wp2
       go_ret
       exact ⟨by first | rfl | (simp [errW_none, errW_some] <;> rfl) | (simp [*, errW_none, errW_some] <;> rfl), by repeat (first | (with_reducible first | exact HB.out | apply bC | apply bA | apply bB | refine bD ?_ GE286.out | refine bD ?_ GE287.out) | exact HB.out)⟩
     ·replace c40 := Bool.eq_false_iff.mpr c40
      subst c40
      have H1 : (some false) = some r := by rw [if_neg (show ¬ (false = true) by decide)] at H; exact H
      clear H
      have H := H1
      clear H1
      obtain rfl := Option.some.inj H
      have hnb72 := NB286_287.out
      have hnc72 := NB287_286.out
      have hcz73_0 : wc.cell? ⟨gb286, 0, none⟩ = some (.int .i64 a0_0) := (bH BK286.out 0).trans rfl
      have hcz73_1 : wc.cell? ⟨gb286, 1, none⟩ = some (.slice A0_1 l0_1.length c0_1) := (bH BK286.out 1).trans rfl
      have hcz73_2 : wc.cell? ⟨gb286, 2, none⟩ = some (.slice A0_2 l0_2.length c0_2) := (bH BK286.out 2).trans rfl
      have hcz73_3 : wc.cell? ⟨gb286, 3, none⟩ = some (.slice A0_3 l0_3.length c0_3) := (bH BK286.out 3).trans rfl
      have hfz73_0 := bJ BK286.out 0
      have hfz73_1 := bJ BK286.out 1
      have hfz73_2 := bJ BK286.out 2
      have hfz73_3 := bJ BK286.out 3
      have hcz74_0 : wc.cell? ⟨gb287, 0, none⟩ = some (.slice A3_0 l3_0.length c3_0) := (bH BK287.out 0).trans rfl
      have hfz74_0 := bJ BK287.out 0
      try go_wp2_with (first | ((with_reducible refine cB (f := 44) rfl ?_); refine goesL_ (some 37) rfl rfl Try.func44 (by kernel_rfl) rfl #[.agg #[.int .i64 a0_0, .slice A0_1 l0_1.length c0_1, .slice A0_2 l0_2.length c0_2, .slice A0_3 l0_3.length c0_3], .slice A1 l1.length c1, .slice A2 l2.length c2, .agg #[.slice A3_0 l3_0.length c3_0]] rfl (by (try simp only [List.map_toArray, List.map_cons, List.map_nil]); first | done | rfl | (simp only [List.length_drop, List.length_take]; rfl)) ?_; (with_reducible refine (sig_Call.calls kj4 a0_0 _ _ l0_1 _ _ l0_2 _ _ l0_3 _ _ l1 _ _ l2 _ _ l3_0 t292 t295 _ ?side1 ?side2 ?side3 ?side4 ?side5 ?side6 ?side7 ?side8 ?side9 ?side10 ?side11 ?side12 A33.out).mono ?_); (case side1 => repeat (first | exact (Kd.bW HR0_1.out HB.out) | (with_reducible refine Kd.bV ?_ _) | (with_reducible refine Kd.bU ?_ _) | (with_reducible refine Kd.cA ?_))); (case side2 => exact HC0_1.out); (case side3 => repeat (first | exact (Kd.bW HR0_2.out HB.out) | (with_reducible refine Kd.bV ?_ _) | (with_reducible refine Kd.bU ?_ _) | (with_reducible refine Kd.cA ?_))); (case side4 => exact HC0_2.out); (case side5 => repeat (first | exact (Kd.bW HR0_3.out HB.out) | (with_reducible refine Kd.bV ?_ _) | (with_reducible refine Kd.bU ?_ _) | (with_reducible refine Kd.cA ?_))); (case side6 => exact HC0_3.out); (case side7 => repeat (first | exact (Kd.bW HR1.out HB.out) | (with_reducible refine Kd.bV ?_ _) | (with_reducible refine Kd.bU ?_ _) | (with_reducible refine Kd.cA ?_))); (case side8 => exact HC1.out); (case side9 => repeat (first | exact (Kd.bW HR2.out HB.out) | (with_reducible refine Kd.bV ?_ _) | (with_reducible refine Kd.bU ?_ _) | (with_reducible refine Kd.cA ?_))); (case side10 => exact HC2.out); (case side11 => repeat (first | exact (Kd.bW HR3_0.out HB.out) | (with_reducible refine Kd.bV ?_ _) | (with_reducible refine Kd.bU ?_ _) | (with_reducible refine Kd.cA ?_))); (case side12 => exact HC3_0.out); rintro e w75 ⟨v293, rfl, ho0, hb⟩; refine ⟨_, rfl, ?_⟩; have n0_ := Aside0.mk (Kd.R_lower ho0 (bK (by repeat (first | (with_reducible first | exact HB.out | apply bC | apply bA | apply bB | refine bD ?_ GE286.out | refine bD ?_ GE287.out) | exact HB.out)))); have n1_ := Aside0.mk (bL (g := gb286) (o := .cells #[.int .i64 a0_0, .slice A0_1 l0_1.length c0_1, .slice A0_2 l0_2.length c0_2, .slice A0_3 l0_3.length c0_3] 52 (0, 0)) (by (with_reducible repeat (first | refine bF ?_ _ | refine bG ?_ | refine bE ?_ _)); exact BK286.out) hb); have n2_ := Aside0.mk (bL (g := gb287) (o := .cells #[.slice A3_0 l3_0.length c3_0] 44 (0, 0)) (by (with_reducible repeat (first | refine bF ?_ _ | refine bG ?_ | refine bE ?_ _)); exact BK287.out) hb); have n3_ := Aside0.mk (bM (by repeat (first | (with_reducible first | exact HB.out | apply bC | apply bA | apply bB | refine bD ?_ GE286.out | refine bD ?_ GE287.out) | exact HB.out)) hb); clear BK286; clear BK287; clear HB; have HO294 := n0_; have BK286 := n1_; have BK287 := n2_; have HB := n3_; clear n0_ n1_ n2_ n3_; (try clear hb); (try clear hb2); (try clear hk); (try clear hi); (try clear ho0); have hcz76_0 : w75.cell? ⟨gb286, 0, none⟩ = some (.int .i64 a0_0) := (bH BK286.out 0).trans rfl; have hcz76_1 : w75.cell? ⟨gb286, 1, none⟩ = some (.slice A0_1 l0_1.length c0_1) := (bH BK286.out 1).trans rfl; have hcz76_2 : w75.cell? ⟨gb286, 2, none⟩ = some (.slice A0_2 l0_2.length c0_2) := (bH BK286.out 2).trans rfl; have hcz76_3 : w75.cell? ⟨gb286, 3, none⟩ = some (.slice A0_3 l0_3.length c0_3) := (bH BK286.out 3).trans rfl; have hfz76_0 := bJ BK286.out 0; have hfz76_1 := bJ BK286.out 1; have hfz76_2 := bJ BK286.out 2; have hfz76_3 := bJ BK286.out 3; have hcz77_0 : w75.cell? ⟨gb287, 0, none⟩ = some (.slice A3_0 l3_0.length c3_0) := (bH BK287.out 0).trans rfl; have hfz77_0 := bJ BK287.out 0) | ((with_reducible refine cB (f := 45) rfl ?_); refine goesL_ (some 45) rfl rfl Try.func45 (by kernel_rfl) rfl #[.agg #[.int .i64 a0_0, .slice A0_1 l0_1.length c0_1, .slice A0_2 l0_2.length c0_2, .slice A0_3 l0_3.length c0_3], .slice A1 l1.length c1, .slice A2 l2.length c2, .agg #[.slice A3_0 l3_0.length c3_0]] rfl (by (try simp only [List.map_toArray, List.map_cons, List.map_nil]); first | done | rfl | (simp only [List.length_drop, List.length_take]; rfl)) ?_; (with_reducible refine (easementref17_Call.calls kj4 a0_0 _ _ l0_1 _ _ l0_2 _ _ l0_3 _ _ l1 _ _ l2 _ _ l3_0 t296 t299 _ ?side1 ?side2 ?side3 ?side4 ?side5 ?side6 ?side7 ?side8 ?side9 ?side10 ?side11 ?side12 A34.out).mono ?_); (case side1 => repeat (first | exact (Kd.bW HR0_1.out HB.out) | (with_reducible refine Kd.bV ?_ _) | (with_reducible refine Kd.bU ?_ _) | (with_reducible refine Kd.cA ?_))); (case side2 => exact HC0_1.out); (case side3 => repeat (first | exact (Kd.bW HR0_2.out HB.out) | (with_reducible refine Kd.bV ?_ _) | (with_reducible refine Kd.bU ?_ _) | (with_reducible refine Kd.cA ?_))); (case side4 => exact HC0_2.out); (case side5 => repeat (first | exact (Kd.bW HR0_3.out HB.out) | (with_reducible refine Kd.bV ?_ _) | (with_reducible refine Kd.bU ?_ _) | (with_reducible refine Kd.cA ?_))); (case side6 => exact HC0_3.out); (case side7 => repeat (first | exact (Kd.bW HR1.out HB.out) | (with_reducible refine Kd.bV ?_ _) | (with_reducible refine Kd.bU ?_ _) | (with_reducible refine Kd.cA ?_))); (case side8 => exact HC1.out); (case side9 => repeat (first | exact (Kd.bW HR2.out HB.out) | (with_reducible refine Kd.bV ?_ _) | (with_reducible refine Kd.bU ?_ _) | (with_reducible refine Kd.cA ?_))); (case side10 => exact HC2.out); (case side11 => repeat (first | exact (Kd.bW HR3_0.out HB.out) | (with_reducible refine Kd.bV ?_ _) | (with_reducible refine Kd.bU ?_ _) | (with_reducible refine Kd.cA ?_))); (case side12 => exact HC3_0.out); rintro e w78 ⟨v297, rfl, ho0, hb⟩; refine ⟨_, rfl, ?_⟩; have n0_ := Aside0.mk (Kd.cC (by (with_reducible repeat (first | apply Kd.bR | apply Kd.bQ | apply Kd.bT)); exact HO294.out) hb); have n1_ := Aside0.mk (Kd.R_lower ho0 (bK (by repeat (first | (with_reducible first | exact HB.out | apply bC | apply bA | apply bB | refine bD ?_ GE286.out | refine bD ?_ GE287.out) | exact HB.out)))); have n2_ := Aside0.mk (bL (g := gb286) (o := .cells #[.int .i64 a0_0, .slice A0_1 l0_1.length c0_1, .slice A0_2 l0_2.length c0_2, .slice A0_3 l0_3.length c0_3] 52 (0, 0)) (by (with_reducible repeat (first | refine bF ?_ _ | refine bG ?_ | refine bE ?_ _)); exact BK286.out) hb); have n3_ := Aside0.mk (bL (g := gb287) (o := .cells #[.slice A3_0 l3_0.length c3_0] 44 (0, 0)) (by (with_reducible repeat (first | refine bF ?_ _ | refine bG ?_ | refine bE ?_ _)); exact BK287.out) hb); have n4_ := Aside0.mk (bM (by repeat (first | (with_reducible first | exact HB.out | apply bC | apply bA | apply bB | refine bD ?_ GE286.out | refine bD ?_ GE287.out) | exact HB.out)) hb); clear HO294; clear BK286; clear BK287; clear HB; have HO294 := n0_; have HO298 := n1_; have BK286 := n2_; have BK287 := n3_; have HB := n4_; clear n0_ n1_ n2_ n3_ n4_; (try clear hb); (try clear hb2); (try clear hk); (try clear hi); (try clear ho0)))
      have n0_ := Aside0.mk (Kd.bT HO294.out)
      have n1_ := Aside0.mk (Kd.bT HO298.out)
      have n2_ := Aside0.mk (bG BK286.out)
      have n3_ := Aside0.mk (bG BK287.out)
      have n4_ := Aside0.mk (bB HB.out)
      clear HO294
      clear HO298
      clear BK286
      clear BK287
      clear HB
      have HO294 := n0_
      have HO298 := n1_
      have BK286 := n2_
      have BK287 := n3_
      have HB := n4_
      clear n0_ n1_ n2_ n3_ n4_
      refine start_ (n := 20) (S := fun w' => w'.cell? ⟨gb286, 0, none⟩ = some (.int .i64 a0_0) ∧ w'.cell? ⟨gb286, 1, none⟩ = some (.slice A0_1 l0_1.length c0_1) ∧ w'.cell? ⟨gb286, 2, none⟩ = some (.slice A0_2 l0_2.length c0_2) ∧ w'.cell? ⟨gb286, 3, none⟩ = some (.slice A0_3 l0_3.length c0_3)) (ds := []) #[false, false, false, false, false, false, false, false, false, false, false, false, false, false, false, false, false, false, false, false] (by kernel_rfl) rfl rfl ⟨(bH BK286.out 0).trans rfl, (bH BK286.out 1).trans rfl, (bH BK286.out 2).trans rfl, (bH BK286.out 3).trans rfl⟩ (fun hHeld => ?_); refine with_tabW easementlaw17_SigCalls.tab5 easementlaw17_SigCalls.bits5 (fun HT_ HW_ => ?_)
      generalize w78.drew = w79 at HO294 HO298 BK286 BK287 HB hHeld ⊢
      refine take_ (i := 0) (N := some 48) (v := ?_) (a' := ?_) #[true, false, false, false, false, false, false, false, false, false, false, false, false, false, false, false, false, false, false, false] rfl rfl (take_ofW HT_.out HW_.out (by kernel_rfl)) (fun _ _ _ h => h) (Or.inl ⟨by rfl, ?_⟩) hHeld ?_ ?_
      rotate_left
      ·rintro w' ⟨s0, s1, s2, s3⟩
       go_simp
       with_reducible rfl
      rotate_left
      ·simp only [Act.put, sZ1, sZ2, sZ3, bN, bP]
       rfl
      refine take_ (i := 2) (N := some 50) (v := ?_) (a' := ?_) #[true, false, true, false, false, false, false, false, false, false, false, false, false, false, false, false, false, false, false, false] rfl rfl (take_ofW HT_.out HW_.out (by kernel_rfl)) (fun _ _ _ h => h) (Or.inl ⟨by rfl, ?_⟩) hHeld ?_ ?_
      rotate_left
      ·rintro w' ⟨s0, s1, s2, s3⟩
       go_simp
       with_reducible rfl
      rotate_left
      ·simp only [Act.put, sZ1, sZ2, sZ3, bN, bP]
       rfl
      refine one_ (i := 1) (N := some 49) #[true, true, true, false, false, false, false, false, false, false, false, false, false, false, false, false, false, false, false, false] rfl rfl (one_of HT_.out (by kernel_rfl)) (by decide) (fun K hK => ?_)
      refine goes_ Try.func46 (by kernel_rfl) rfl #[.agg #[.int .i64 a0_0, .slice A0_1 l0_1.length c0_1, .slice A0_2 l0_2.length c0_2, .slice A0_3 l0_3.length c0_3]] (by rfl) rfl rfl (by (try simp only [List.map_toArray, List.map_cons, List.map_nil]); first | done | rfl | (simp only [List.length_drop, List.length_take]; rfl)) ?_
      with_reducible refine (sig_Check.calls a0_0 _ _ l0_1 _ _ l0_2 _ _ l0_3 t300 _ ?side1 ?side2 ?side3 ?side4 ?side5 ?side6 A35.out).mono ?_
      (case side1 => repeat (first | exact (Kd.bW HR0_1.out HB.out) | (with_reducible refine Kd.bV ?_ _) | (with_reducible refine Kd.bU ?_ _) | (with_reducible refine Kd.cA ?_)))
      (case side2 => exact HC0_1.out)
      (case side3 => repeat (first | exact (Kd.bW HR0_2.out HB.out) | (with_reducible refine Kd.bV ?_ _) | (with_reducible refine Kd.bU ?_ _) | (with_reducible refine Kd.cA ?_)))
      (case side4 => exact HC0_2.out)
      (case side5 => repeat (first | exact (Kd.bW HR0_3.out HB.out) | (with_reducible refine Kd.bV ?_ _) | (with_reducible refine Kd.bU ?_ _) | (with_reducible refine Kd.cA ?_)))
      (case side6 => exact HC0_3.out)
      rintro e w80 ⟨rfl, hb⟩
      refine ⟨_, rfl, ?_⟩
      have n0_ := Aside0.mk (Kd.cC (by (with_reducible repeat (first | apply Kd.bR | apply Kd.bQ | apply Kd.bT)); exact HO294.out) hb)
      have n1_ := Aside0.mk (Kd.cC (by (with_reducible repeat (first | apply Kd.bR | apply Kd.bQ | apply Kd.bT)); exact HO298.out) hb)
      have n2_ := Aside0.mk (bL (g := gb286) (o := .cells #[.int .i64 a0_0, .slice A0_1 l0_1.length c0_1, .slice A0_2 l0_2.length c0_2, .slice A0_3 l0_3.length c0_3] 52 (0, 0)) (by (with_reducible repeat (first | refine bF ?_ _ | refine bG ?_ | refine bE ?_ _)); exact BK286.out) hb)
      have n3_ := Aside0.mk (bL (g := gb287) (o := .cells #[.slice A3_0 l3_0.length c3_0] 44 (0, 0)) (by (with_reducible repeat (first | refine bF ?_ _ | refine bG ?_ | refine bE ?_ _)); exact BK287.out) hb)
      have n4_ := Aside0.mk (bM (by repeat (first | (with_reducible first | exact HB.out | apply bC | apply bA | apply bB | refine bD ?_ GE286.out | refine bD ?_ GE287.out) | exact HB.out)) hb)
      clear HO294
      clear HO298
      clear BK286
      clear BK287
      clear HB
      have HO294 := n0_
      have HO298 := n1_
      have BK286 := n2_
      have BK287 := n3_
      have HB := n4_
      clear n0_ n1_ n2_ n3_ n4_
      (try clear hb)
      (try clear hb2)
      (try clear hk)
      (try clear hi)
      refine hK.out _ _ ⟨(bH BK286.out 0).trans rfl, (bH BK286.out 1).trans rfl, (bH BK286.out 2).trans rfl, (bH BK286.out 3).trans rfl⟩ (fun hHeld => ?_)
      clear hK K
      refine norm_ (a' := ?_) ?_ ?_
      rotate_left
      ·show Act.put _ (some 49) _ = _
       simp only [Act.put, sZ1, sZ2, sZ3, bN, bP]
       rfl
      refine one_ (i := 3) (N := some 51) #[true, true, true, true, false, false, false, false, false, false, false, false, false, false, false, false, false, false, false, false] rfl rfl (one_of HT_.out (by kernel_rfl)) (by decide) (fun K hK => ?_)
      refine goes_ Try.func47 (by kernel_rfl) rfl #[.agg #[.int .i64 a0_0, .slice A0_1 l0_1.length c0_1, .slice A0_2 l0_2.length c0_2, .slice A0_3 l0_3.length c0_3]] (by rfl) rfl rfl (by (try simp only [List.map_toArray, List.map_cons, List.map_nil]); first | done | rfl | (simp only [List.length_drop, List.length_take]; rfl)) ?_
      with_reducible refine (easementref17_Check.calls kj4 a0_0 _ _ l0_1 _ _ l0_2 _ _ l0_3 t301 _ ?side1 ?side2 ?side3 ?side4 ?side5 ?side6 A36.out).mono ?_
      (case side1 => repeat (first | exact (Kd.bW HR0_1.out HB.out) | (with_reducible refine Kd.bV ?_ _) | (with_reducible refine Kd.bU ?_ _) | (with_reducible refine Kd.cA ?_)))
      (case side2 => exact HC0_1.out)
      (case side3 => repeat (first | exact (Kd.bW HR0_2.out HB.out) | (with_reducible refine Kd.bV ?_ _) | (with_reducible refine Kd.bU ?_ _) | (with_reducible refine Kd.cA ?_)))
      (case side4 => exact HC0_2.out)
      (case side5 => repeat (first | exact (Kd.bW HR0_3.out HB.out) | (with_reducible refine Kd.bV ?_ _) | (with_reducible refine Kd.bU ?_ _) | (with_reducible refine Kd.cA ?_)))
      (case side6 => exact HC0_3.out)
      rintro e w81 ⟨rfl, hb⟩
      refine ⟨_, rfl, ?_⟩
      have n0_ := Aside0.mk (Kd.cC (by (with_reducible repeat (first | apply Kd.bR | apply Kd.bQ | apply Kd.bT)); exact HO294.out) hb)
      have n1_ := Aside0.mk (Kd.cC (by (with_reducible repeat (first | apply Kd.bR | apply Kd.bQ | apply Kd.bT)); exact HO298.out) hb)
      have n2_ := Aside0.mk (bL (g := gb286) (o := .cells #[.int .i64 a0_0, .slice A0_1 l0_1.length c0_1, .slice A0_2 l0_2.length c0_2, .slice A0_3 l0_3.length c0_3] 52 (0, 0)) (by (with_reducible repeat (first | refine bF ?_ _ | refine bG ?_ | refine bE ?_ _)); exact BK286.out) hb)
      have n3_ := Aside0.mk (bL (g := gb287) (o := .cells #[.slice A3_0 l3_0.length c3_0] 44 (0, 0)) (by (with_reducible repeat (first | refine bF ?_ _ | refine bG ?_ | refine bE ?_ _)); exact BK287.out) hb)
      have n4_ := Aside0.mk (bM (by repeat (first | (with_reducible first | exact HB.out | apply bC | apply bA | apply bB | refine bD ?_ GE286.out | refine bD ?_ GE287.out) | exact HB.out)) hb)
      clear HO294
      clear HO298
      clear BK286
      clear BK287
      clear HB
      have HO294 := n0_
      have HO298 := n1_
      have BK286 := n2_
      have BK287 := n3_
      have HB := n4_
      clear n0_ n1_ n2_ n3_ n4_
      (try clear hb)
      (try clear hb2)
      (try clear hk)
      (try clear hi)
      obtain ⟨Ao82, co82, eo82⟩ := Kd.R_slice HO294.out
      (first | subst eo82 | (injection eo82 with f1_ f2_ f3_; have f4_ := f1_.symm; have f5_ := f3_.symm; clear f1_ f2_ f3_; subst f4_; subst f5_))
      refine hK.out _ _ ⟨(bH BK286.out 0).trans rfl, (bH BK286.out 1).trans rfl, (bH BK286.out 2).trans rfl, (bH BK286.out 3).trans rfl⟩ (fun hHeld => ?_)
      clear hK K
      refine norm_ (a' := ?_) ?_ ?_
      rotate_left
      ·show Act.put _ (some 51) _ = _
       simp only [Act.put, sZ1, sZ2, sZ3, bN, bP]
       rfl
      refine bX (i := 4) (N := some 52) (v := ?_) (a' := ?_) #[true, true, true, true, true, false, false, false, false, false, false, false, false, false, false, false, false, false, false, false] rfl rfl (bS HT_.out (by kernel_rfl)) (fun _ _ _ h => h) (Or.inl ⟨by rfl, ?_⟩) ?_ ?_
      rotate_left
      ·intro w'
       go_simp
       with_reducible rfl
      rotate_left
      ·simp only [Act.put, sZ1, sZ2, sZ3, bN, bP]
       rfl
      refine bX (i := 5) (N := some 53) (v := ?_) (a' := ?_) #[true, true, true, true, true, true, false, false, false, false, false, false, false, false, false, false, false, false, false, false] rfl rfl (bS HT_.out (by kernel_rfl)) (fun _ _ _ h => h) (Or.inl ⟨by rfl, ?_⟩) ?_ ?_
      rotate_left
      ·intro w'
       go_simp
       with_reducible rfl
      rotate_left
      ·simp only [Act.put, sZ1, sZ2, sZ3, bN, bP]
       rfl
      refine bX (i := 6) (N := some 54) (v := ?_) (a' := ?_) #[true, true, true, true, true, true, true, false, false, false, false, false, false, false, false, false, false, false, false, false] rfl rfl (bS HT_.out (by kernel_rfl)) (fun _ _ _ h => h) (Or.inl ⟨by rfl, ?_⟩) ?_ ?_
      rotate_left
      ·intro w'
       go_simp
       with_reducible rfl
      rotate_left
      ·simp only [Act.put, sZ1, sZ2, sZ3, bN, bP]
       rfl
      refine bX (i := 8) (N := some 56) (v := ?_) (a' := ?_) #[true, true, true, true, true, true, true, false, true, false, false, false, false, false, false, false, false, false, false, false] rfl rfl (bS HT_.out (by kernel_rfl)) (fun _ _ _ h => h) (Or.inl ⟨by rfl, ?_⟩) ?_ ?_
      rotate_left
      ·intro w'
       go_simp
       with_reducible rfl
      rotate_left
      ·simp only [Act.put, sZ1, sZ2, sZ3, bN, bP]
       rfl
      refine one_ (i := 7) (N := some 55) #[true, true, true, true, true, true, true, true, true, false, false, false, false, false, false, false, false, false, false, false] rfl rfl (one_of HT_.out (by kernel_rfl)) (by decide) (fun K hK => ?_)
      refine goes_ Try.func39 (by kernel_rfl) rfl #[.slice Ao82 t292.length co82] (by rfl) rfl rfl (by (try simp only [List.map_toArray, List.map_cons, List.map_nil]); first | done | rfl | (simp only [List.length_drop, List.length_take]; rfl)) ?_
      with_reducible refine (easementlaw16_Doc.calls kj4 _ _ t292 t302 _ ?side1 ?side2 A38.out).mono ?_
      (case side1 => repeat (first | exact (Kd.cF HO294.out).2.2 | (with_reducible refine Kd.bV ?_ _) | (with_reducible refine Kd.bU ?_ _) | (with_reducible refine Kd.cA ?_)))
      (case side2 => exact (Kd.cF HO294.out).2.1)
      rintro e w83 ⟨v303, rfl, ho0, hb⟩
      refine ⟨_, rfl, ?_⟩
      have n0_ := Aside0.mk (Kd.cC (by (with_reducible repeat (first | apply Kd.bR | apply Kd.bQ | apply Kd.bT)); exact HO294.out) hb)
      have n1_ := Aside0.mk (Kd.R_elder' (by (with_reducible repeat (first | apply Kd.bR | apply Kd.bQ | apply Kd.bT)); exact HO298.out) (Kd.R_base ho0) hb)
      have n2_ := Aside0.mk (Kd.R_lower (Kd.R_new' ho0 (Kd.R_lt (by (with_reducible repeat (first | apply Kd.bR | apply Kd.bQ | apply Kd.bT)); exact HO298.out))) (bK (by repeat (first | (with_reducible first | exact HB.out | apply bC | apply bA | apply bB | refine bD ?_ GE286.out | refine bD ?_ GE287.out) | exact HB.out))))
      have n3_ := Aside0.mk (bL (g := gb286) (o := .cells #[.int .i64 a0_0, .slice A0_1 l0_1.length c0_1, .slice A0_2 l0_2.length c0_2, .slice A0_3 l0_3.length c0_3] 52 (0, 0)) (by (with_reducible repeat (first | refine bF ?_ _ | refine bG ?_ | refine bE ?_ _)); exact BK286.out) hb)
      have n4_ := Aside0.mk (bL (g := gb287) (o := .cells #[.slice A3_0 l3_0.length c3_0] 44 (0, 0)) (by (with_reducible repeat (first | refine bF ?_ _ | refine bG ?_ | refine bE ?_ _)); exact BK287.out) hb)
      have n5_ := Aside0.mk (bM (by repeat (first | (with_reducible first | exact HB.out | apply bC | apply bA | apply bB | refine bD ?_ GE286.out | refine bD ?_ GE287.out) | exact HB.out)) hb)
      clear HO294
      clear HO298
      clear BK286
      clear BK287
      clear HB
      have HO294 := n0_
      have HO298 := n1_
      have HO304 := n2_
      have BK286 := n3_
      have BK287 := n4_
      have HB := n5_
      clear n0_ n1_ n2_ n3_ n4_ n5_
      (try clear hb)
      (try clear hb2)
      (try clear hk)
      (try clear hi)
      (try clear ho0)
      obtain ⟨Ao84, co84, eo84⟩ := Kd.R_slice HO304.out
      (first | subst eo84 | (injection eo84 with f1_ f2_ f3_; have f4_ := f1_.symm; have f5_ := f3_.symm; clear f1_ f2_ f3_; subst f4_; subst f5_))
      obtain ⟨Ao85, co85, eo85⟩ := Kd.R_slice HO298.out
      (first | subst eo85 | (injection eo85 with f1_ f2_ f3_; have f4_ := f1_.symm; have f5_ := f3_.symm; clear f1_ f2_ f3_; subst f4_; subst f5_))
      refine hK.out _ _ ⟨(bH BK286.out 0).trans rfl, (bH BK286.out 1).trans rfl, (bH BK286.out 2).trans rfl, (bH BK286.out 3).trans rfl⟩ (fun hHeld => ?_)
      clear hK K
      refine norm_ (a' := ?_) ?_ ?_
      rotate_left
      ·show Act.put _ (some 55) _ = _
       simp only [Act.put, sZ1, sZ2, sZ3, bN, bP]
       rfl
      refine one_ (i := 9) (N := some 57) #[true, true, true, true, true, true, true, true, true, true, false, false, false, false, false, false, false, false, false, false] rfl rfl (one_of HT_.out (by kernel_rfl)) (by decide) (fun K hK => ?_)
      refine goes_ Try.func38 (by kernel_rfl) rfl #[.slice Ao84 t302.length co84, .slice Ao85 t296.length co85] (by rfl) rfl rfl (by (try simp only [List.map_toArray, List.map_cons, List.map_nil]); first | done | rfl | (simp only [List.length_drop, List.length_take]; rfl)) ?_
      with_reducible refine (easementref16_Same.calls kj4 _ _ t302 _ _ t296 false _ ?side1 ?side2 ?side3 ?side4 A39.out).mono ?_
      (case side1 => repeat (first | exact (Kd.cF HO304.out).2.2 | (with_reducible refine Kd.bV ?_ _) | (with_reducible refine Kd.bU ?_ _) | (with_reducible refine Kd.cA ?_)))
      (case side2 => exact (Kd.cF HO304.out).2.1)
      (case side3 => repeat (first | exact (Kd.cF HO298.out).2.2 | (with_reducible refine Kd.bV ?_ _) | (with_reducible refine Kd.bU ?_ _) | (with_reducible refine Kd.cA ?_)))
      (case side4 => exact (Kd.cF HO298.out).2.1)
      rintro e w' ⟨rfl, ⟨nd, rfl⟩⟩
      refine ⟨_, rfl, ?_⟩
      refine hK.out _ _ ⟨(bH BK286.out 0).trans rfl, (bH BK286.out 1).trans rfl, (bH BK286.out 2).trans rfl, (bH BK286.out 3).trans rfl⟩ (fun hHeld => ?_)
      clear hK K
      refine norm_ (a' := ?_) ?_ ?_
      rotate_left
      ·show Act.put _ (some 57) _ = _
       simp only [Act.put, sZ1, sZ2, sZ3, bN, bP]
       rfl
      refine bX (i := 10) (N := some 58) (v := ?_) (a' := ?_) #[true, true, true, true, true, true, true, true, true, true, true, false, false, false, false, false, false, false, false, false] rfl rfl (bS HT_.out (by kernel_rfl)) (fun _ _ _ h => h) (Or.inl ⟨by rfl, ?_⟩) ?_ ?_
      rotate_left
      ·intro w'
       go_simp
       with_reducible rfl
      rotate_left
      ·simp only [Act.put, sZ1, sZ2, sZ3, bN, bP]
       rfl
      refine bX (i := 11) (N := some 59) (v := ?_) (a' := ?_) #[true, true, true, true, true, true, true, true, true, true, true, true, false, false, false, false, false, false, false, false] rfl rfl (bS HT_.out (by kernel_rfl)) (fun _ _ _ h => h) (Or.inl ⟨by rfl, ?_⟩) ?_ ?_
      rotate_left
      ·intro w'
       go_simp
       with_reducible rfl
      rotate_left
      ·simp only [Act.put, sZ1, sZ2, sZ3, bN, bP]
       rfl
      refine bX (i := 12) (N := some 60) (v := undef) (a' := ?_) #[true, true, true, true, true, true, true, true, true, true, true, true, true, false, false, false, false, false, false, false] rfl rfl (bS HT_.out (by kernel_rfl)) (fun _ _ _ h => h) (Or.inr ⟨by rfl, rfl⟩) ?_ ?_
      rotate_left
      ·simp only [Act.put, sZ1, sZ2, sZ3, bN, bP]
       rfl
      refine bX (i := 13) (N := some 61) (v := undef) (a' := ?_) #[true, true, true, true, true, true, true, true, true, true, true, true, true, true, false, false, false, false, false, false] rfl rfl (bS HT_.out (by kernel_rfl)) (fun _ _ _ h => h) (Or.inr ⟨by rfl, rfl⟩) ?_ ?_
      rotate_left
      ·simp only [Act.put, sZ1, sZ2, sZ3, bN, bP]
       rfl
      refine bX (i := 14) (N := some 62) (v := undef) (a' := ?_) #[true, true, true, true, true, true, true, true, true, true, true, true, true, true, true, false, false, false, false, false] rfl rfl (bS HT_.out (by kernel_rfl)) (fun _ _ _ h => h) (Or.inr ⟨by rfl, rfl⟩) ?_ ?_
      rotate_left
      ·simp only [Act.put, sZ1, sZ2, sZ3, bN, bP]
       rfl
      refine bX (i := 15) (N := some 63) (v := ?_) (a' := ?_) #[true, true, true, true, true, true, true, true, true, true, true, true, true, true, true, true, false, false, false, false] rfl rfl (bS HT_.out (by kernel_rfl)) (fun _ _ _ h => h) (Or.inl ⟨by rfl, ?_⟩) ?_ ?_
      rotate_left
      ·intro w'
       go_simp
       with_reducible rfl
      rotate_left
      ·simp only [Act.put, sZ1, sZ2, sZ3, bN, bP]
       rfl
      refine bX (i := 16) (N := some 64) (v := ?_) (a' := ?_) #[true, true, true, true, true, true, true, true, true, true, true, true, true, true, true, true, true, false, false, false] rfl rfl (bS HT_.out (by kernel_rfl)) (fun _ _ _ h => h) (Or.inl ⟨by rfl, ?_⟩) ?_ ?_
      rotate_left
      ·intro w'
       go_simp
       with_reducible rfl
      rotate_left
      ·simp only [Act.put, sZ1, sZ2, sZ3, bN, bP]
       rfl
      refine bX (i := 17) (N := some 65) (v := undef) (a' := ?_) #[true, true, true, true, true, true, true, true, true, true, true, true, true, true, true, true, true, true, false, false] rfl rfl (bS HT_.out (by kernel_rfl)) (fun _ _ _ h => h) (Or.inr ⟨by rfl, rfl⟩) ?_ ?_
      rotate_left
      ·simp only [Act.put, sZ1, sZ2, sZ3, bN, bP]
       rfl
      refine bX (i := 18) (N := some 66) (v := ?_) (a' := ?_) #[true, true, true, true, true, true, true, true, true, true, true, true, true, true, true, true, true, true, true, false] rfl rfl (bS HT_.out (by kernel_rfl)) (fun _ _ _ h => h) (Or.inl ⟨by rfl, ?_⟩) ?_ ?_
      rotate_left
      ·intro w'
       go_simp
       with_reducible rfl
      rotate_left
      ·simp only [Act.put, sZ1, sZ2, sZ3, bN, bP]
       rfl
      refine bX (i := 19) (N := some 8) (v := ?_) (a' := ?_) #[true, true, true, true, true, true, true, true, true, true, true, true, true, true, true, true, true, true, true, true] rfl rfl (bS HT_.out (by kernel_rfl)) (fun _ _ _ h => h) (Or.inl ⟨by rfl, ?_⟩) ?_ ?_
      rotate_left
      ·intro w'
       go_simp
       with_reducible rfl
      rotate_left
      ·simp only [Act.put, sZ1, sZ2, sZ3, bN, bP]
       rfl
      refine done_ (done_of HT_.out (by kernel_rfl)) ?_
      try go_wp2
      go_ret
      exact ⟨by first | rfl | (simp [errW_none, errW_some] <;> rfl) | (simp [*, errW_none, errW_some] <;> rfl), by repeat (first | (with_reducible first | exact HB.out | apply bC | apply bA | apply bB | refine bD ?_ GE286.out | refine bD ?_ GE287.out) | exact HB.out)⟩
    ·rw [if_neg c37] at H
     have c37b0 : (t300 == t301) = false := beq_eq_false_iff_ne.mpr c37
     have c37b1 : (t300 != t301) = true := bne_iff_ne.mpr c37
     obtain rfl := Option.some.inj H
     have hnb86 := NB286_287.out
     have hnc86 := NB287_286.out
     have hcz87_0 : wc.cell? ⟨gb286, 0, none⟩ = some (.int .i64 a0_0) := (bH BK286.out 0).trans rfl
     have hcz87_1 : wc.cell? ⟨gb286, 1, none⟩ = some (.slice A0_1 l0_1.length c0_1) := (bH BK286.out 1).trans rfl
     have hcz87_2 : wc.cell? ⟨gb286, 2, none⟩ = some (.slice A0_2 l0_2.length c0_2) := (bH BK286.out 2).trans rfl
     have hcz87_3 : wc.cell? ⟨gb286, 3, none⟩ = some (.slice A0_3 l0_3.length c0_3) := (bH BK286.out 3).trans rfl
     have hfz87_0 := bJ BK286.out 0
     have hfz87_1 := bJ BK286.out 1
     have hfz87_2 := bJ BK286.out 2
     have hfz87_3 := bJ BK286.out 3
     have hcz88_0 : wc.cell? ⟨gb287, 0, none⟩ = some (.slice A3_0 l3_0.length c3_0) := (bH BK287.out 0).trans rfl
     have hfz88_0 := bJ BK287.out 0
     try go_wp2_with (first | ((with_reducible refine cB (f := 44) rfl ?_); refine goesL_ (some 37) rfl rfl Try.func44 (by kernel_rfl) rfl #[.agg #[.int .i64 a0_0, .slice A0_1 l0_1.length c0_1, .slice A0_2 l0_2.length c0_2, .slice A0_3 l0_3.length c0_3], .slice A1 l1.length c1, .slice A2 l2.length c2, .agg #[.slice A3_0 l3_0.length c3_0]] rfl (by (try simp only [List.map_toArray, List.map_cons, List.map_nil]); first | done | rfl | (simp only [List.length_drop, List.length_take]; rfl)) ?_; (with_reducible refine (sig_Call.calls kj4 a0_0 _ _ l0_1 _ _ l0_2 _ _ l0_3 _ _ l1 _ _ l2 _ _ l3_0 t292 t295 _ ?side1 ?side2 ?side3 ?side4 ?side5 ?side6 ?side7 ?side8 ?side9 ?side10 ?side11 ?side12 A33.out).mono ?_); (case side1 => repeat (first | exact (Kd.bW HR0_1.out HB.out) | (with_reducible refine Kd.bV ?_ _) | (with_reducible refine Kd.bU ?_ _) | (with_reducible refine Kd.cA ?_))); (case side2 => exact HC0_1.out); (case side3 => repeat (first | exact (Kd.bW HR0_2.out HB.out) | (with_reducible refine Kd.bV ?_ _) | (with_reducible refine Kd.bU ?_ _) | (with_reducible refine Kd.cA ?_))); (case side4 => exact HC0_2.out); (case side5 => repeat (first | exact (Kd.bW HR0_3.out HB.out) | (with_reducible refine Kd.bV ?_ _) | (with_reducible refine Kd.bU ?_ _) | (with_reducible refine Kd.cA ?_))); (case side6 => exact HC0_3.out); (case side7 => repeat (first | exact (Kd.bW HR1.out HB.out) | (with_reducible refine Kd.bV ?_ _) | (with_reducible refine Kd.bU ?_ _) | (with_reducible refine Kd.cA ?_))); (case side8 => exact HC1.out); (case side9 => repeat (first | exact (Kd.bW HR2.out HB.out) | (with_reducible refine Kd.bV ?_ _) | (with_reducible refine Kd.bU ?_ _) | (with_reducible refine Kd.cA ?_))); (case side10 => exact HC2.out); (case side11 => repeat (first | exact (Kd.bW HR3_0.out HB.out) | (with_reducible refine Kd.bV ?_ _) | (with_reducible refine Kd.bU ?_ _) | (with_reducible refine Kd.cA ?_))); (case side12 => exact HC3_0.out); rintro e w89 ⟨v293, rfl, ho0, hb⟩; refine ⟨_, rfl, ?_⟩; have n0_ := Aside0.mk (Kd.R_lower ho0 (bK (by repeat (first | (with_reducible first | exact HB.out | apply bC | apply bA | apply bB | refine bD ?_ GE286.out | refine bD ?_ GE287.out) | exact HB.out)))); have n1_ := Aside0.mk (bL (g := gb286) (o := .cells #[.int .i64 a0_0, .slice A0_1 l0_1.length c0_1, .slice A0_2 l0_2.length c0_2, .slice A0_3 l0_3.length c0_3] 52 (0, 0)) (by (with_reducible repeat (first | refine bF ?_ _ | refine bG ?_ | refine bE ?_ _)); exact BK286.out) hb); have n2_ := Aside0.mk (bL (g := gb287) (o := .cells #[.slice A3_0 l3_0.length c3_0] 44 (0, 0)) (by (with_reducible repeat (first | refine bF ?_ _ | refine bG ?_ | refine bE ?_ _)); exact BK287.out) hb); have n3_ := Aside0.mk (bM (by repeat (first | (with_reducible first | exact HB.out | apply bC | apply bA | apply bB | refine bD ?_ GE286.out | refine bD ?_ GE287.out) | exact HB.out)) hb); clear BK286; clear BK287; clear HB; have HO294 := n0_; have BK286 := n1_; have BK287 := n2_; have HB := n3_; clear n0_ n1_ n2_ n3_; (try clear hb); (try clear hb2); (try clear hk); (try clear hi); (try clear ho0); have hcz90_0 : w89.cell? ⟨gb286, 0, none⟩ = some (.int .i64 a0_0) := (bH BK286.out 0).trans rfl; have hcz90_1 : w89.cell? ⟨gb286, 1, none⟩ = some (.slice A0_1 l0_1.length c0_1) := (bH BK286.out 1).trans rfl; have hcz90_2 : w89.cell? ⟨gb286, 2, none⟩ = some (.slice A0_2 l0_2.length c0_2) := (bH BK286.out 2).trans rfl; have hcz90_3 : w89.cell? ⟨gb286, 3, none⟩ = some (.slice A0_3 l0_3.length c0_3) := (bH BK286.out 3).trans rfl; have hfz90_0 := bJ BK286.out 0; have hfz90_1 := bJ BK286.out 1; have hfz90_2 := bJ BK286.out 2; have hfz90_3 := bJ BK286.out 3; have hcz91_0 : w89.cell? ⟨gb287, 0, none⟩ = some (.slice A3_0 l3_0.length c3_0) := (bH BK287.out 0).trans rfl; have hfz91_0 := bJ BK287.out 0) | ((with_reducible refine cB (f := 45) rfl ?_); refine goesL_ (some 45) rfl rfl Try.func45 (by kernel_rfl) rfl #[.agg #[.int .i64 a0_0, .slice A0_1 l0_1.length c0_1, .slice A0_2 l0_2.length c0_2, .slice A0_3 l0_3.length c0_3], .slice A1 l1.length c1, .slice A2 l2.length c2, .agg #[.slice A3_0 l3_0.length c3_0]] rfl (by (try simp only [List.map_toArray, List.map_cons, List.map_nil]); first | done | rfl | (simp only [List.length_drop, List.length_take]; rfl)) ?_; (with_reducible refine (easementref17_Call.calls kj4 a0_0 _ _ l0_1 _ _ l0_2 _ _ l0_3 _ _ l1 _ _ l2 _ _ l3_0 t296 t299 _ ?side1 ?side2 ?side3 ?side4 ?side5 ?side6 ?side7 ?side8 ?side9 ?side10 ?side11 ?side12 A34.out).mono ?_); (case side1 => repeat (first | exact (Kd.bW HR0_1.out HB.out) | (with_reducible refine Kd.bV ?_ _) | (with_reducible refine Kd.bU ?_ _) | (with_reducible refine Kd.cA ?_))); (case side2 => exact HC0_1.out); (case side3 => repeat (first | exact (Kd.bW HR0_2.out HB.out) | (with_reducible refine Kd.bV ?_ _) | (with_reducible refine Kd.bU ?_ _) | (with_reducible refine Kd.cA ?_))); (case side4 => exact HC0_2.out); (case side5 => repeat (first | exact (Kd.bW HR0_3.out HB.out) | (with_reducible refine Kd.bV ?_ _) | (with_reducible refine Kd.bU ?_ _) | (with_reducible refine Kd.cA ?_))); (case side6 => exact HC0_3.out); (case side7 => repeat (first | exact (Kd.bW HR1.out HB.out) | (with_reducible refine Kd.bV ?_ _) | (with_reducible refine Kd.bU ?_ _) | (with_reducible refine Kd.cA ?_))); (case side8 => exact HC1.out); (case side9 => repeat (first | exact (Kd.bW HR2.out HB.out) | (with_reducible refine Kd.bV ?_ _) | (with_reducible refine Kd.bU ?_ _) | (with_reducible refine Kd.cA ?_))); (case side10 => exact HC2.out); (case side11 => repeat (first | exact (Kd.bW HR3_0.out HB.out) | (with_reducible refine Kd.bV ?_ _) | (with_reducible refine Kd.bU ?_ _) | (with_reducible refine Kd.cA ?_))); (case side12 => exact HC3_0.out); rintro e w92 ⟨v297, rfl, ho0, hb⟩; refine ⟨_, rfl, ?_⟩; have n0_ := Aside0.mk (Kd.cC (by (with_reducible repeat (first | apply Kd.bR | apply Kd.bQ | apply Kd.bT)); exact HO294.out) hb); have n1_ := Aside0.mk (Kd.R_lower ho0 (bK (by repeat (first | (with_reducible first | exact HB.out | apply bC | apply bA | apply bB | refine bD ?_ GE286.out | refine bD ?_ GE287.out) | exact HB.out)))); have n2_ := Aside0.mk (bL (g := gb286) (o := .cells #[.int .i64 a0_0, .slice A0_1 l0_1.length c0_1, .slice A0_2 l0_2.length c0_2, .slice A0_3 l0_3.length c0_3] 52 (0, 0)) (by (with_reducible repeat (first | refine bF ?_ _ | refine bG ?_ | refine bE ?_ _)); exact BK286.out) hb); have n3_ := Aside0.mk (bL (g := gb287) (o := .cells #[.slice A3_0 l3_0.length c3_0] 44 (0, 0)) (by (with_reducible repeat (first | refine bF ?_ _ | refine bG ?_ | refine bE ?_ _)); exact BK287.out) hb); have n4_ := Aside0.mk (bM (by repeat (first | (with_reducible first | exact HB.out | apply bC | apply bA | apply bB | refine bD ?_ GE286.out | refine bD ?_ GE287.out) | exact HB.out)) hb); clear HO294; clear BK286; clear BK287; clear HB; have HO294 := n0_; have HO298 := n1_; have BK286 := n2_; have BK287 := n3_; have HB := n4_; clear n0_ n1_ n2_ n3_ n4_; (try clear hb); (try clear hb2); (try clear hk); (try clear hi); (try clear ho0)))
     have n0_ := Aside0.mk (Kd.bT HO294.out)
     have n1_ := Aside0.mk (Kd.bT HO298.out)
     have n2_ := Aside0.mk (bG BK286.out)
     have n3_ := Aside0.mk (bG BK287.out)
     have n4_ := Aside0.mk (bB HB.out)
     clear HO294
     clear HO298
     clear BK286
     clear BK287
     clear HB
     have HO294 := n0_
     have HO298 := n1_
     have BK286 := n2_
     have BK287 := n3_
     have HB := n4_
     clear n0_ n1_ n2_ n3_ n4_
     refine start_ (n := 20) (S := fun w' => w'.cell? ⟨gb286, 0, none⟩ = some (.int .i64 a0_0) ∧ w'.cell? ⟨gb286, 1, none⟩ = some (.slice A0_1 l0_1.length c0_1) ∧ w'.cell? ⟨gb286, 2, none⟩ = some (.slice A0_2 l0_2.length c0_2) ∧ w'.cell? ⟨gb286, 3, none⟩ = some (.slice A0_3 l0_3.length c0_3)) (ds := []) #[false, false, false, false, false, false, false, false, false, false, false, false, false, false, false, false, false, false, false, false] (by kernel_rfl) rfl rfl ⟨(bH BK286.out 0).trans rfl, (bH BK286.out 1).trans rfl, (bH BK286.out 2).trans rfl, (bH BK286.out 3).trans rfl⟩ (fun hHeld => ?_); refine with_tabW easementlaw17_SigCalls.tab5 easementlaw17_SigCalls.bits5 (fun HT_ HW_ => ?_)
     generalize w92.drew = w93 at HO294 HO298 BK286 BK287 HB hHeld ⊢
     refine take_ (i := 0) (N := some 48) (v := ?_) (a' := ?_) #[true, false, false, false, false, false, false, false, false, false, false, false, false, false, false, false, false, false, false, false] rfl rfl (take_ofW HT_.out HW_.out (by kernel_rfl)) (fun _ _ _ h => h) (Or.inl ⟨by rfl, ?_⟩) hHeld ?_ ?_
     rotate_left
     ·rintro w' ⟨s0, s1, s2, s3⟩
      go_simp
      with_reducible rfl
     rotate_left
     ·simp only [Act.put, sZ1, sZ2, sZ3, bN, bP]
      rfl
     refine take_ (i := 2) (N := some 50) (v := ?_) (a' := ?_) #[true, false, true, false, false, false, false, false, false, false, false, false, false, false, false, false, false, false, false, false] rfl rfl (take_ofW HT_.out HW_.out (by kernel_rfl)) (fun _ _ _ h => h) (Or.inl ⟨by rfl, ?_⟩) hHeld ?_ ?_
     rotate_left
     ·rintro w' ⟨s0, s1, s2, s3⟩
      go_simp
      with_reducible rfl
     rotate_left
     ·simp only [Act.put, sZ1, sZ2, sZ3, bN, bP]
      rfl
     refine one_ (i := 1) (N := some 49) #[true, true, true, false, false, false, false, false, false, false, false, false, false, false, false, false, false, false, false, false] rfl rfl (one_of HT_.out (by kernel_rfl)) (by decide) (fun K hK => ?_)
     refine goes_ Try.func46 (by kernel_rfl) rfl #[.agg #[.int .i64 a0_0, .slice A0_1 l0_1.length c0_1, .slice A0_2 l0_2.length c0_2, .slice A0_3 l0_3.length c0_3]] (by rfl) rfl rfl (by (try simp only [List.map_toArray, List.map_cons, List.map_nil]); first | done | rfl | (simp only [List.length_drop, List.length_take]; rfl)) ?_
     with_reducible refine (sig_Check.calls a0_0 _ _ l0_1 _ _ l0_2 _ _ l0_3 t300 _ ?side1 ?side2 ?side3 ?side4 ?side5 ?side6 A35.out).mono ?_
     (case side1 => repeat (first | exact (Kd.bW HR0_1.out HB.out) | (with_reducible refine Kd.bV ?_ _) | (with_reducible refine Kd.bU ?_ _) | (with_reducible refine Kd.cA ?_)))
     (case side2 => exact HC0_1.out)
     (case side3 => repeat (first | exact (Kd.bW HR0_2.out HB.out) | (with_reducible refine Kd.bV ?_ _) | (with_reducible refine Kd.bU ?_ _) | (with_reducible refine Kd.cA ?_)))
     (case side4 => exact HC0_2.out)
     (case side5 => repeat (first | exact (Kd.bW HR0_3.out HB.out) | (with_reducible refine Kd.bV ?_ _) | (with_reducible refine Kd.bU ?_ _) | (with_reducible refine Kd.cA ?_)))
     (case side6 => exact HC0_3.out)
     rintro e w94 ⟨rfl, hb⟩
     refine ⟨_, rfl, ?_⟩
     have n0_ := Aside0.mk (Kd.cC (by (with_reducible repeat (first | apply Kd.bR | apply Kd.bQ | apply Kd.bT)); exact HO294.out) hb)
     have n1_ := Aside0.mk (Kd.cC (by (with_reducible repeat (first | apply Kd.bR | apply Kd.bQ | apply Kd.bT)); exact HO298.out) hb)
     have n2_ := Aside0.mk (bL (g := gb286) (o := .cells #[.int .i64 a0_0, .slice A0_1 l0_1.length c0_1, .slice A0_2 l0_2.length c0_2, .slice A0_3 l0_3.length c0_3] 52 (0, 0)) (by (with_reducible repeat (first | refine bF ?_ _ | refine bG ?_ | refine bE ?_ _)); exact BK286.out) hb)
     have n3_ := Aside0.mk (bL (g := gb287) (o := .cells #[.slice A3_0 l3_0.length c3_0] 44 (0, 0)) (by (with_reducible repeat (first | refine bF ?_ _ | refine bG ?_ | refine bE ?_ _)); exact BK287.out) hb)
     have n4_ := Aside0.mk (bM (by repeat (first | (with_reducible first | exact HB.out | apply bC | apply bA | apply bB | refine bD ?_ GE286.out | refine bD ?_ GE287.out) | exact HB.out)) hb)
     clear HO294
     clear HO298
     clear BK286
     clear BK287
     clear HB
     have HO294 := n0_
     have HO298 := n1_
     have BK286 := n2_
     have BK287 := n3_
     have HB := n4_
     clear n0_ n1_ n2_ n3_ n4_
     (try clear hb)
     (try clear hb2)
     (try clear hk)
     (try clear hi)
     refine hK.out _ _ ⟨(bH BK286.out 0).trans rfl, (bH BK286.out 1).trans rfl, (bH BK286.out 2).trans rfl, (bH BK286.out 3).trans rfl⟩ (fun hHeld => ?_)
     clear hK K
     refine norm_ (a' := ?_) ?_ ?_
     rotate_left
     ·show Act.put _ (some 49) _ = _
      simp only [Act.put, sZ1, sZ2, sZ3, bN, bP]
      rfl
     refine one_ (i := 3) (N := some 51) #[true, true, true, true, false, false, false, false, false, false, false, false, false, false, false, false, false, false, false, false] rfl rfl (one_of HT_.out (by kernel_rfl)) (by decide) (fun K hK => ?_)
     refine goes_ Try.func47 (by kernel_rfl) rfl #[.agg #[.int .i64 a0_0, .slice A0_1 l0_1.length c0_1, .slice A0_2 l0_2.length c0_2, .slice A0_3 l0_3.length c0_3]] (by rfl) rfl rfl (by (try simp only [List.map_toArray, List.map_cons, List.map_nil]); first | done | rfl | (simp only [List.length_drop, List.length_take]; rfl)) ?_
     with_reducible refine (easementref17_Check.calls kj4 a0_0 _ _ l0_1 _ _ l0_2 _ _ l0_3 t301 _ ?side1 ?side2 ?side3 ?side4 ?side5 ?side6 A36.out).mono ?_
     (case side1 => repeat (first | exact (Kd.bW HR0_1.out HB.out) | (with_reducible refine Kd.bV ?_ _) | (with_reducible refine Kd.bU ?_ _) | (with_reducible refine Kd.cA ?_)))
     (case side2 => exact HC0_1.out)
     (case side3 => repeat (first | exact (Kd.bW HR0_2.out HB.out) | (with_reducible refine Kd.bV ?_ _) | (with_reducible refine Kd.bU ?_ _) | (with_reducible refine Kd.cA ?_)))
     (case side4 => exact HC0_2.out)
     (case side5 => repeat (first | exact (Kd.bW HR0_3.out HB.out) | (with_reducible refine Kd.bV ?_ _) | (with_reducible refine Kd.bU ?_ _) | (with_reducible refine Kd.cA ?_)))
     (case side6 => exact HC0_3.out)
     rintro e w95 ⟨rfl, hb⟩
     refine ⟨_, rfl, ?_⟩
     have n0_ := Aside0.mk (Kd.cC (by (with_reducible repeat (first | apply Kd.bR | apply Kd.bQ | apply Kd.bT)); exact HO294.out) hb)
     have n1_ := Aside0.mk (Kd.cC (by (with_reducible repeat (first | apply Kd.bR | apply Kd.bQ | apply Kd.bT)); exact HO298.out) hb)
     have n2_ := Aside0.mk (bL (g := gb286) (o := .cells #[.int .i64 a0_0, .slice A0_1 l0_1.length c0_1, .slice A0_2 l0_2.length c0_2, .slice A0_3 l0_3.length c0_3] 52 (0, 0)) (by (with_reducible repeat (first | refine bF ?_ _ | refine bG ?_ | refine bE ?_ _)); exact BK286.out) hb)
     have n3_ := Aside0.mk (bL (g := gb287) (o := .cells #[.slice A3_0 l3_0.length c3_0] 44 (0, 0)) (by (with_reducible repeat (first | refine bF ?_ _ | refine bG ?_ | refine bE ?_ _)); exact BK287.out) hb)
     have n4_ := Aside0.mk (bM (by repeat (first | (with_reducible first | exact HB.out | apply bC | apply bA | apply bB | refine bD ?_ GE286.out | refine bD ?_ GE287.out) | exact HB.out)) hb)
     clear HO294
     clear HO298
     clear BK286
     clear BK287
     clear HB
     have HO294 := n0_
     have HO298 := n1_
     have BK286 := n2_
     have BK287 := n3_
     have HB := n4_
     clear n0_ n1_ n2_ n3_ n4_
     (try clear hb)
     (try clear hb2)
     (try clear hk)
     (try clear hi)
     refine hK.out _ _ ⟨(bH BK286.out 0).trans rfl, (bH BK286.out 1).trans rfl, (bH BK286.out 2).trans rfl, (bH BK286.out 3).trans rfl⟩ (fun hHeld => ?_)
     clear hK K
     refine norm_ (a' := ?_) ?_ ?_
     rotate_left
     ·show Act.put _ (some 51) _ = _
      simp only [Act.put, sZ1, sZ2, sZ3, bN, bP]
      rfl
     refine bX (i := 4) (N := some 52) (v := ?_) (a' := ?_) #[true, true, true, true, true, false, false, false, false, false, false, false, false, false, false, false, false, false, false, false] rfl rfl (bS HT_.out (by kernel_rfl)) (fun _ _ _ h => h) (Or.inl ⟨by rfl, ?_⟩) ?_ ?_
     rotate_left
     ·intro w'
      go_simp
      with_reducible rfl
     rotate_left
     ·simp only [Act.put, sZ1, sZ2, sZ3, bN, bP]
      rfl
     refine bX (i := 5) (N := some 53) (v := ?_) (a' := ?_) #[true, true, true, true, true, true, false, false, false, false, false, false, false, false, false, false, false, false, false, false] rfl rfl (bS HT_.out (by kernel_rfl)) (fun _ _ _ h => h) (Or.inl ⟨by rfl, ?_⟩) ?_ ?_
     rotate_left
     ·intro w'
      go_simp
      with_reducible rfl
     rotate_left
     ·simp only [Act.put, sZ1, sZ2, sZ3, bN, bP]
      rfl
     refine bX (i := 6) (N := some 54) (v := undef) (a' := ?_) #[true, true, true, true, true, true, true, false, false, false, false, false, false, false, false, false, false, false, false, false] rfl rfl (bS HT_.out (by kernel_rfl)) (fun _ _ _ h => h) (Or.inr ⟨by rfl, rfl⟩) ?_ ?_
     rotate_left
     ·simp only [Act.put, sZ1, sZ2, sZ3, bN, bP]
      rfl
     refine bX (i := 7) (N := some 55) (v := undef) (a' := ?_) #[true, true, true, true, true, true, true, true, false, false, false, false, false, false, false, false, false, false, false, false] rfl rfl (bS HT_.out (by kernel_rfl)) (fun _ _ _ h => h) (Or.inr ⟨by rfl, rfl⟩) ?_ ?_
     rotate_left
     ·simp only [Act.put, sZ1, sZ2, sZ3, bN, bP]
      rfl
     refine bX (i := 8) (N := some 56) (v := undef) (a' := ?_) #[true, true, true, true, true, true, true, true, true, false, false, false, false, false, false, false, false, false, false, false] rfl rfl (bS HT_.out (by kernel_rfl)) (fun _ _ _ h => h) (Or.inr ⟨by rfl, rfl⟩) ?_ ?_
     rotate_left
     ·simp only [Act.put, sZ1, sZ2, sZ3, bN, bP]
      rfl
     refine bX (i := 9) (N := some 57) (v := undef) (a' := ?_) #[true, true, true, true, true, true, true, true, true, true, false, false, false, false, false, false, false, false, false, false] rfl rfl (bS HT_.out (by kernel_rfl)) (fun _ _ _ h => h) (Or.inr ⟨by rfl, rfl⟩) ?_ ?_
     rotate_left
     ·simp only [Act.put, sZ1, sZ2, sZ3, bN, bP]
      rfl
     refine bX (i := 10) (N := some 58) (v := ?_) (a' := ?_) #[true, true, true, true, true, true, true, true, true, true, true, false, false, false, false, false, false, false, false, false] rfl rfl (bS HT_.out (by kernel_rfl)) (fun _ _ _ h => h) (Or.inl ⟨by rfl, ?_⟩) ?_ ?_
     rotate_left
     ·intro w'
      go_simp
      with_reducible rfl
     rotate_left
     ·simp only [Act.put, sZ1, sZ2, sZ3, bN, bP]
      rfl
     refine bX (i := 11) (N := some 59) (v := ?_) (a' := ?_) #[true, true, true, true, true, true, true, true, true, true, true, true, false, false, false, false, false, false, false, false] rfl rfl (bS HT_.out (by kernel_rfl)) (fun _ _ _ h => h) (Or.inl ⟨by rfl, ?_⟩) ?_ ?_
     rotate_left
     ·intro w'
      go_simp
      with_reducible rfl
     rotate_left
     ·simp only [Act.put, sZ1, sZ2, sZ3, bN, bP]
      rfl
     refine bX (i := 12) (N := some 60) (v := undef) (a' := ?_) #[true, true, true, true, true, true, true, true, true, true, true, true, true, false, false, false, false, false, false, false] rfl rfl (bS HT_.out (by kernel_rfl)) (fun _ _ _ h => h) (Or.inr ⟨by rfl, rfl⟩) ?_ ?_
     rotate_left
     ·simp only [Act.put, sZ1, sZ2, sZ3, bN, bP]
      rfl
     refine bX (i := 13) (N := some 61) (v := undef) (a' := ?_) #[true, true, true, true, true, true, true, true, true, true, true, true, true, true, false, false, false, false, false, false] rfl rfl (bS HT_.out (by kernel_rfl)) (fun _ _ _ h => h) (Or.inr ⟨by rfl, rfl⟩) ?_ ?_
     rotate_left
     ·simp only [Act.put, sZ1, sZ2, sZ3, bN, bP]
      rfl
     refine bX (i := 14) (N := some 62) (v := undef) (a' := ?_) #[true, true, true, true, true, true, true, true, true, true, true, true, true, true, true, false, false, false, false, false] rfl rfl (bS HT_.out (by kernel_rfl)) (fun _ _ _ h => h) (Or.inr ⟨by rfl, rfl⟩) ?_ ?_
     rotate_left
     ·simp only [Act.put, sZ1, sZ2, sZ3, bN, bP]
      rfl
     refine bX (i := 15) (N := some 63) (v := ?_) (a' := ?_) #[true, true, true, true, true, true, true, true, true, true, true, true, true, true, true, true, false, false, false, false] rfl rfl (bS HT_.out (by kernel_rfl)) (fun _ _ _ h => h) (Or.inl ⟨by rfl, ?_⟩) ?_ ?_
     rotate_left
     ·intro w'
      go_simp
      with_reducible rfl
     rotate_left
     ·simp only [Act.put, sZ1, sZ2, sZ3, bN, bP]
      rfl
     refine bX (i := 16) (N := some 64) (v := ?_) (a' := ?_) #[true, true, true, true, true, true, true, true, true, true, true, true, true, true, true, true, true, false, false, false] rfl rfl (bS HT_.out (by kernel_rfl)) (fun _ _ _ h => h) (Or.inl ⟨by rfl, ?_⟩) ?_ ?_
     rotate_left
     ·intro w'
      go_simp
      with_reducible rfl
     rotate_left
     ·simp only [Act.put, sZ1, sZ2, sZ3, bN, bP]
      rfl
     refine bX (i := 17) (N := some 65) (v := undef) (a' := ?_) #[true, true, true, true, true, true, true, true, true, true, true, true, true, true, true, true, true, true, false, false] rfl rfl (bS HT_.out (by kernel_rfl)) (fun _ _ _ h => h) (Or.inr ⟨by rfl, rfl⟩) ?_ ?_
     rotate_left
     ·simp only [Act.put, sZ1, sZ2, sZ3, bN, bP]
      rfl
     refine bX (i := 18) (N := some 66) (v := ?_) (a' := ?_) #[true, true, true, true, true, true, true, true, true, true, true, true, true, true, true, true, true, true, true, false] rfl rfl (bS HT_.out (by kernel_rfl)) (fun _ _ _ h => h) (Or.inl ⟨by rfl, ?_⟩) ?_ ?_
     rotate_left
     ·intro w'
      go_simp
      with_reducible rfl
     rotate_left
     ·simp only [Act.put, sZ1, sZ2, sZ3, bN, bP]
      rfl
     refine bX (i := 19) (N := some 8) (v := ?_) (a' := ?_) #[true, true, true, true, true, true, true, true, true, true, true, true, true, true, true, true, true, true, true, true] rfl rfl (bS HT_.out (by kernel_rfl)) (fun _ _ _ h => h) (Or.inl ⟨by rfl, ?_⟩) ?_ ?_
     rotate_left
     ·intro w'
      go_simp
      with_reducible rfl
     rotate_left
     ·simp only [Act.put, sZ1, sZ2, sZ3, bN, bP]
      rfl
     refine done_ (done_of HT_.out (by kernel_rfl)) ?_
     try go_wp2
     go_ret
     exact ⟨by first | rfl | (simp [errW_none, errW_some] <;> rfl) | (simp [*, errW_none, errW_some] <;> rfl), by repeat (first | (with_reducible first | exact HB.out | apply bC | apply bA | apply bB | refine bD ?_ GE286.out | refine bD ?_ GE287.out) | exact HB.out)⟩

end Go.Proofs.Ythhebinonpoddaa.GSigCalls
