/- Written for this claim by gp.py, a program of this session's, over the kit's print. Lean checks it. -/
import Derived.Test.YthhebinonpoddaaGSigCallsx0
import Derived.Test.YthhebinonpoddaaGSigCallshsubst
import Derived.Test.YthhebinonpoddaaGSigCallshflow
import Derived.Test.YthhebinonpoddaaGSigCallshsigcheck
namespace Go.Proofs.Ythhebinonpoddaa.GSigCalls
open Go.RowKit Go.Proofs.YthhebinonpoddaaW.PrintWords Go.Proofs.YthhebinonpoddaaW.PrintLast Go.Proofs.YthhebinonpoddaaW.PrintMore
attribute [local go_sem] max2_int min2_int max_two min_two max_three min_three max_four min_four   -- for this text's walks alone
set_option linter.unusedVariables false
set_option linter.unusedSimpArgs false

/-! ### sig_Call: function 44 -/
mutual
def sig_Call.j0 : Nat → List Int → List (S44) → Bool → Int → List (S117) → List (S44) → List (S115) → List (S115) → Option ((List (S129)) × Int)
 | 0, _, _, _, _, _, _, _, _ => none
 | k + 1, x1, x2, x41, x167000, x167001, x167002, x167003, x168000 => if x41 = true then (some (([] : List (S129)), 2)) else (sig_Call.l0 k x1 x2 ([] : List (S129)) x167001 (x167001.length : Int) 0 x167000 x167001 x167002 x167003 x168000)
def sig_Call.l0 : Nat → List Int → List (S44) → List (S129) → List (S117) → Int → Int → Int → List (S117) → List (S44) → List (S115) → List (S115) → Option ((List (S129)) × Int)
 | 0, _, _, _, _, _, _, _, _, _, _, _ => none
 | k + 1, x1, x2, x11, x43, x44, x45, x167000, x167001, x167002, x167003, x168000 => if x45 < x44 then (if 0 ≤ x45 then (if x45 < (x43.length : Int) then (if 0 ≤ ((rd_T117 x43 x45).f0) then (if ((rd_T117 x43 x45).f0) < (x1.length : Int) then (if 0 ≤ ((rd_T117 x43 x45).f1) then (if ((rd_T117 x43 x45).f1) < (x1.length : Int) then (if x11.length < 3518437208883 then (sig_Call.l0 k x1 x2 (x11 ++ [(⟨rd x1 ((rd_T117 x43 x45).f0), rd x1 ((rd_T117 x43 x45).f1), 4, x45, false⟩ : S129)]) x43 x44 (wrap64 (x45 + 1)) x167000 x167001 x167002 x167003 x168000) else (none)) else (none)) else (none)) else (none)) else (none)) else (none)) else (none)) else (sig_Call.l1 k x1 x2 x11 x167002 (x167002.length : Int) 0 x167000 x167001 x167002 x167003 x168000)
def sig_Call.l1 : Nat → List Int → List (S44) → List (S129) → List (S44) → Int → Int → Int → List (S117) → List (S44) → List (S115) → List (S115) → Option ((List (S129)) × Int)
 | 0, _, _, _, _, _, _, _, _, _, _, _ => none
 | k + 1, x1, x2, x11, x67, x68, x69, x167000, x167001, x167002, x167003, x168000 => if x69 < x68 then (if 0 ≤ x69 then (if x69 < (x67.length : Int) then ((row_Subst.f ((rd_T44 x67 x69).f0) x1).bind fun bt178 => (if x69 < (x2.length : Int) then ((relate_Flow.f ((rd_T44 x2 x69).f0) bt178.1 5 (wrap64 (x69 * 16))).bind fun bt184 => (if bt184.2 = 0 then (if x11.length + bt184.1.length < 3518437208883 then (sig_Call.l1 k x1 x2 (x11 ++ bt184.1) x67 x68 (wrap64 (x69 + 1)) x167000 x167001 x167002 x167003 x168000) else (none)) else (some (([] : List (S129)), bt184.2)))) else (none))) else (none)) else (none)) else ((row_Subst.f x167003 x1).bind fun bt191 => ((relate_Flow.f bt191.1 x168000 6 0).bind fun bt196 => (if bt196.2 = 0 then (if x11.length + bt196.1.length < 3518437208883 then (some ((x11 ++ bt196.1), 0)) else (none)) else (some (([] : List (S129)), bt196.2)))))
end
def sig_Call.f (k : Nat) (a0_0 : Int) (l0_1 : List (S117)) (l0_2 : List (S44)) (l0_3 : List (S115)) (l1 : List Int) (l2 : List (S44)) (l3_0 : List (S115)) : Option ((List (S129)) × Int) := (sig_Check.f a0_0 l0_1 l0_2 l0_3).bind fun t168 => (if t168 = 0 then (if (l1.length : Int) = a0_0 then (sig_Call.j0 k l1 l2 ((l2.length : Int) != (l0_2.length : Int)) a0_0 l0_1 l0_2 l0_3 l3_0) else (sig_Call.j0 k l1 l2 true a0_0 l0_1 l0_2 l0_3 l3_0)) else (some (([] : List (S129)), t168)))
theorem sig_Call.mono_l : ∀ k, (∀ y0 y1 y2 y3 y4 y5 y6 y7, LeO (sig_Call.j0 k y0 y1 y2 y3 y4 y5 y6 y7) (sig_Call.j0 (k + 1) y0 y1 y2 y3 y4 y5 y6 y7)) ∧ (∀ y0 y1 y2 y3 y4 y5 y6 y7 y8 y9 y10, LeO (sig_Call.l0 k y0 y1 y2 y3 y4 y5 y6 y7 y8 y9 y10) (sig_Call.l0 (k + 1) y0 y1 y2 y3 y4 y5 y6 y7 y8 y9 y10)) ∧ (∀ y0 y1 y2 y3 y4 y5 y6 y7 y8 y9 y10, LeO (sig_Call.l1 k y0 y1 y2 y3 y4 y5 y6 y7 y8 y9 y10) (sig_Call.l1 (k + 1) y0 y1 y2 y3 y4 y5 y6 y7 y8 y9 y10))
 | 0 => ⟨fun _ _ _ _ _ _ _ _ r h => by simp [sig_Call.j0] at h, fun _ _ _ _ _ _ _ _ _ _ _ r h => by simp [sig_Call.l0] at h, fun _ _ _ _ _ _ _ _ _ _ _ r h => by simp [sig_Call.l1] at h⟩
 | k + 1 => by
  obtain ⟨ih0, ih1, ih2⟩ := sig_Call.mono_l k
  refine ⟨?_, ?_, ?_⟩
  ·intro y0 y1 y2 y3 y4 y5 y6 y7
   unfold sig_Call.j0
   repeat' first
   | (with_reducible exact ih0 _ _ _ _ _ _ _ _)
   | (with_reducible exact ih1 _ _ _ _ _ _ _ _ _ _ _)
   | (with_reducible exact ih2 _ _ _ _ _ _ _ _ _ _ _)
   | (with_reducible exact LeO.refl _)
   | (with_reducible exact LeO.none _)
   | (with_reducible refine LeO.ite ?_ ?_)
   | (with_reducible refine LeO.bind ?_ (fun _ => ?_))
   | exact ih0 _ _ _ _ _ _ _ _
   | exact ih1 _ _ _ _ _ _ _ _ _ _ _
   | exact ih2 _ _ _ _ _ _ _ _ _ _ _
   | exact LeO.none _
   | refine LeO.ite ?_ ?_
   | refine LeO.bind ?_ (fun _ => ?_)
  ·intro y0 y1 y2 y3 y4 y5 y6 y7 y8 y9 y10
   unfold sig_Call.l0
   repeat' first
   | (with_reducible exact ih0 _ _ _ _ _ _ _ _)
   | (with_reducible exact ih1 _ _ _ _ _ _ _ _ _ _ _)
   | (with_reducible exact ih2 _ _ _ _ _ _ _ _ _ _ _)
   | (with_reducible exact LeO.refl _)
   | (with_reducible exact LeO.none _)
   | (with_reducible refine LeO.ite ?_ ?_)
   | (with_reducible refine LeO.bind ?_ (fun _ => ?_))
   | exact ih0 _ _ _ _ _ _ _ _
   | exact ih1 _ _ _ _ _ _ _ _ _ _ _
   | exact ih2 _ _ _ _ _ _ _ _ _ _ _
   | exact LeO.none _
   | refine LeO.ite ?_ ?_
   | refine LeO.bind ?_ (fun _ => ?_)
  ·intro y0 y1 y2 y3 y4 y5 y6 y7 y8 y9 y10
   unfold sig_Call.l1
   repeat' first
   | (with_reducible exact ih0 _ _ _ _ _ _ _ _)
   | (with_reducible exact ih1 _ _ _ _ _ _ _ _ _ _ _)
   | (with_reducible exact ih2 _ _ _ _ _ _ _ _ _ _ _)
   | (with_reducible exact LeO.refl _)
   | (with_reducible exact LeO.none _)
   | (with_reducible refine LeO.ite ?_ ?_)
   | (with_reducible refine LeO.bind ?_ (fun _ => ?_))
   | exact ih0 _ _ _ _ _ _ _ _
   | exact ih1 _ _ _ _ _ _ _ _ _ _ _
   | exact ih2 _ _ _ _ _ _ _ _ _ _ _
   | exact LeO.none _
   | refine LeO.ite ?_ ?_
   | refine LeO.bind ?_ (fun _ => ?_)
theorem sig_Call.mono : ∀ a0 a1 a2 a3 a4 a5 a6 k, LeO (sig_Call.f k a0 a1 a2 a3 a4 a5 a6) (sig_Call.f (k + 1) a0 a1 a2 a3 a4 a5 a6) := by
 intro a0 a1 a2 a3 a4 a5 a6 k
 obtain ⟨ih0, ih1, ih2⟩ := sig_Call.mono_l k
 unfold sig_Call.f
 repeat' first
   | (with_reducible exact ih0 _ _ _ _ _ _ _ _)
   | (with_reducible exact ih1 _ _ _ _ _ _ _ _ _ _ _)
   | (with_reducible exact ih2 _ _ _ _ _ _ _ _ _ _ _)
   | (with_reducible exact LeO.refl _)
   | (with_reducible exact LeO.none _)
   | (with_reducible refine LeO.ite ?_ ?_)
   | (with_reducible refine LeO.bind ?_ (fun _ => ?_))
   | exact ih0 _ _ _ _ _ _ _ _
   | exact ih1 _ _ _ _ _ _ _ _ _ _ _
   | exact ih2 _ _ _ _ _ _ _ _ _ _ _
   | exact LeO.none _
   | refine LeO.ite ?_ ?_
   | refine LeO.bind ?_ (fun _ => ?_)
def sig_Call.T10 : Bool × List (List Nat × List Nat) := (true, [([], []), ([], []), ([], []), ([2], [2]), ([1, 3], [1, 3]), ([4], [4]), ([], []), ([], []), ([7], [7]), ([6, 8], [6, 8]), ([9], [9]), ([], []), ([5, 10, 11], [5, 10, 11]), ([12], [12]), ([0, 13], [0, 13]), ([14, 14, 0, 1, 2, 3, 4, 5, 6, 7, 8, 9, 10, 11, 12, 13, 14], [0, 14])])
def sig_Call.B10 : List Nat := [0, 0, 0, 4, 14, 30, 0, 0, 128, 448, 960, 0, 4094, 8190, 16383, 32767]
theorem sig_Call.tab10 : rtab .any (opsOf Try.f44 10) = sig_Call.T10 := by kernel_rfl
theorem sig_Call.bits10 : waitsOk sig_Call.T10.2 sig_Call.B10 = true := by kernel_rfl
def sig_Call.T16 : Bool × List (List Nat × List Nat) := (true, [([], []), ([], []), ([0, 1], [0, 1]), ([2], [2]), ([], []), ([], []), ([5], [5]), ([3, 4, 6], [3, 4, 6]), ([7], [7]), ([8], [8]), ([8], [8]), ([9, 7, 0, 1, 2, 3, 4, 5, 6, 7, 8, 9], [9]), ([10, 11, 0, 1, 2, 3, 4, 5, 6, 7, 8, 9, 10, 11], [10])])
def sig_Call.B16 : List Nat := [0, 0, 3, 7, 0, 0, 32, 127, 255, 511, 511, 1023, 4095]
theorem sig_Call.tab16 : rtab .any (opsOf Try.f44 16) = sig_Call.T16 := by kernel_rfl
theorem sig_Call.bits16 : waitsOk sig_Call.T16.2 sig_Call.B16 = true := by kernel_rfl
set_option maxHeartbeats 8000000 in
set_option maxRecDepth 100000 in
theorem sig_Call.calls (k : Nat) (a0_0 : Int) (A0_1 : Option Addr) (c0_1 : Nat) (l0_1 : List (S117)) (A0_2 : Option Addr) (c0_2 : Nat) (l0_2 : List (S44)) (A0_3 : Option Addr) (c0_3 : Nat) (l0_3 : List (S115)) (A1 : Option Addr) (c1 : Nat) (l1 : List Int) (A2 : Option Addr) (c2 : Nat) (l2 : List (S44)) (A3_0 : Option Addr) (c3_0 : Nat) (l3_0 : List (S115)) (r1 : List (S129)) (r2 : Int) (w : World) (hr0_1 : Kd.C k117 w A0_1 l0_1.length l0_1) (hc0_1 : l0_1.length ≤ c0_1) (hr0_2 : Kd.C k44 w A0_2 l0_2.length l0_2) (hc0_2 : l0_2.length ≤ c0_2) (hr0_3 : Kd.C k115 w A0_3 l0_3.length l0_3) (hc0_3 : l0_3.length ≤ c0_3) (hr1 : Kd.C (Kd.int .i64) w A1 l1.length l1) (hc1 : l1.length ≤ c1) (hr2 : Kd.C k44 w A2 l2.length l2) (hc2 : l2.length ≤ c2) (hr3_0 : Kd.C k115 w A3_0 l3_0.length l3_0) (hc3_0 : l3_0.length ≤ c3_0) (h : sig_Call.f k a0_0 l0_1 l0_2 l0_3 l1 l2 l3_0 = some (r1, r2)) :
  Calls Try.prog 44 #[.agg #[.int .i64 a0_0, .slice A0_1 l0_1.length c0_1, .slice A0_2 l0_2.length c0_2, .slice A0_3 l0_3.length c0_3], .slice A1 l1.length c1, .slice A2 l2.length c2, .agg #[.slice A3_0 l3_0.length c3_0]] w fun e w' => ∃ v0_ : Value, e = .returned (.tuple #[v0_, .int .i64 r2]) ∧ Kd.R k129 129 w' w.heap.size (fun _ => True) v0_ r1 ∧ Below w.heap.size w w' := by
 have hu52 := Try.underlying52
 have hu44 := Try.underlying44
 have hu117 := Try.underlying117
 have hu129 := Try.underlying129
 have HR0_1 := Aside0.mk hr0_1
 have HC0_1 := Aside0.mk hc0_1
 clear hr0_1 hc0_1
 have HR0_2 := Aside0.mk hr0_2
 have HC0_2 := Aside0.mk hc0_2
 clear hr0_2 hc0_2
 have HR0_3 := Aside0.mk hr0_3
 have HC0_3 := Aside0.mk hc0_3
 clear hr0_3 hc0_3
 have HR1 := Aside0.mk hr1
 have HC1 := Aside0.mk hc1
 clear hr1 hc1
 have HR2 := Aside0.mk hr2
 have HC2 := Aside0.mk hc2
 clear hr2 hc2
 have HR3_0 := Aside0.mk hr3_0
 have HC3_0 := Aside0.mk hc3_0
 clear hr3_0 hc3_0
 have HB := Aside0.mk (Below.refl w.heap.size w)
 have H : ((sig_Check.f a0_0 l0_1 l0_2 l0_3).bind fun t168 => (if t168 = 0 then (if (l1.length : Int) = a0_0 then (sig_Call.j0 k l1 l2 ((l2.length : Int) != (l0_2.length : Int)) a0_0 l0_1 l0_2 l0_3 l3_0) else (sig_Call.j0 k l1 l2 true a0_0 l0_1 l0_2 l0_3 l3_0)) else (some (([] : List (S129)), t168)))) = some (r1, r2) := h
 clear h
 replace H := Option.bind_eq_some_iff.mp H
 obtain ⟨t168, A50, H⟩ := H
 replace H : (if t168 = 0 then (if (l1.length : Int) = a0_0 then (sig_Call.j0 k l1 l2 ((l2.length : Int) != (l0_2.length : Int)) a0_0 l0_1 l0_2 l0_3 l3_0) else (sig_Call.j0 k l1 l2 true a0_0 l0_1 l0_2 l0_3 l3_0)) else (some (([] : List (S129)), t168))) = some (r1, r2) := H
 have A5 := Aside0.mk A50
 clear A50
 by_cases c6 : t168 = 0
 ·rw [if_pos c6] at H
  have c6b0 : (t168 == 0) = true := beq_iff_eq.mpr c6
  have c6b1 : (t168 != 0) = false := bne_eq_false_iff_eq.mpr c6
  clear c6
  have HC7 := Aside0.mk H
  clear H
  go_enter Try.func44, Try.ntmps44
  go_upto_region 4 with (first | ((with_reducible refine bZ (N := 4) rfl ?_); (try (refine cE (by rfl) ?_; dsimp only)); refine bY ?hg (N := 4) ?hd (cs := #[.int .i64 a0_0, .slice A0_1 l0_1.length c0_1, .slice A0_2 l0_2.length c0_2, .slice A0_3 l0_3.length c0_3]) (t := 52) ?hr ?_; (case hd => rfl); (case hg => rfl); (case hr => first | (go_simp; done) | (go_simp; rfl)); intro gb166 hg w8 hbox hb; have n0_ := Aside0.mk (bM (by repeat (first | (with_reducible first | exact HB.out | apply bC | apply bA | apply bB) | exact HB.out)) hb); have n1_ := Aside0.mk (hbox); have n2_ := Aside0.mk ((by rw [hg]; exact (bK (by repeat (first | (with_reducible first | exact HB.out | apply bC | apply bA | apply bB) | exact HB.out))) : w.heap.size ≤ gb166)); have n3_ := Aside0.mk ((by rw [hg]; exact (bK (by repeat (first | (with_reducible first | exact HB.out | apply bC | apply bA | apply bB) | exact HB.out))) : w.heap.size ≤ gb166)); clear HB; have HB := n0_; have BK166 := n1_; have GW166 := n2_; have GE166 := n3_; clear n0_ n1_ n2_ n3_; clear hb hbox hg) | ((with_reducible refine bZ (N := 7) rfl ?_); (try (refine cE (by rfl) ?_; dsimp only)); refine bY ?hg (N := 7) ?hd (cs := #[.slice A3_0 l3_0.length c3_0]) (t := 44) ?hr ?_; (case hd => rfl); (case hg => rfl); (case hr => first | (go_simp; done) | (go_simp; rfl)); intro gb167 hg w9 hbox hb; have n0_ := Aside0.mk (bL (g := gb166) (o := .cells #[.int .i64 a0_0, .slice A0_1 l0_1.length c0_1, .slice A0_2 l0_2.length c0_2, .slice A0_3 l0_3.length c0_3] 52 (0, 0)) (by (with_reducible repeat (first | refine bF ?_ _ | refine bG ?_ | refine bE ?_ _)); exact BK166.out) hb); have n1_ := Aside0.mk (bM (by repeat (first | (with_reducible first | exact HB.out | apply bC | apply bA | apply bB | refine bD ?_ GE166.out) | exact HB.out)) hb); have n2_ := Aside0.mk (hbox); have n3_ := Aside0.mk ((by rw [hg]; exact (bK (by repeat (first | (with_reducible first | exact HB.out | apply bC | apply bA | apply bB | refine bD ?_ GE166.out) | exact HB.out))) : w.heap.size ≤ gb167)); have n4_ := Aside0.mk ((by rw [hg]; exact (bK (by repeat (first | (with_reducible first | exact HB.out | apply bC | apply bA | apply bB | refine bD ?_ GE166.out) | exact HB.out))) : w.heap.size ≤ gb167)); have n5_ := Aside0.mk ((by rw [hg]; exact Nat.ne_of_lt (cD (g := gb166) (o := .cells #[.int .i64 a0_0, .slice A0_1 l0_1.length c0_1, .slice A0_2 l0_2.length c0_2, .slice A0_3 l0_3.length c0_3] 52 (0, 0)) (by (with_reducible repeat (first | refine bF ?_ _ | refine bG ?_ | refine bE ?_ _)); exact BK166.out)) : gb166 ≠ gb167)); have n6_ := Aside0.mk ((by rw [hg]; exact Nat.ne_of_gt (cD (g := gb166) (o := .cells #[.int .i64 a0_0, .slice A0_1 l0_1.length c0_1, .slice A0_2 l0_2.length c0_2, .slice A0_3 l0_3.length c0_3] 52 (0, 0)) (by (with_reducible repeat (first | refine bF ?_ _ | refine bG ?_ | refine bE ?_ _)); exact BK166.out)) : gb167 ≠ gb166)); clear BK166; clear HB; have BK166 := n0_; have HB := n1_; have BK167 := n2_; have GW167 := n3_; have GE167 := n4_; have NB166_167 := n5_; have NB167_166 := n6_; clear n0_ n1_ n2_ n3_ n4_ n5_ n6_; clear hb hbox hg; have hnb10 := NB166_167.out; have hnc10 := NB167_166.out; have hcz11_0 : w9.cell? ⟨gb166, 0, none⟩ = some (.int .i64 a0_0) := (bH BK166.out 0).trans rfl; have hcz11_1 : w9.cell? ⟨gb166, 1, none⟩ = some (.slice A0_1 l0_1.length c0_1) := (bH BK166.out 1).trans rfl; have hcz11_2 : w9.cell? ⟨gb166, 2, none⟩ = some (.slice A0_2 l0_2.length c0_2) := (bH BK166.out 2).trans rfl; have hcz11_3 : w9.cell? ⟨gb166, 3, none⟩ = some (.slice A0_3 l0_3.length c0_3) := (bH BK166.out 3).trans rfl; have hfz11_0 := bJ BK166.out 0; have hfz11_1 := bJ BK166.out 1; have hfz11_2 := bJ BK166.out 2; have hfz11_3 := bJ BK166.out 3) | ((with_reducible refine cB (f := 46) rfl ?_); refine goesL_ (some 25) rfl rfl Try.func46 (by kernel_rfl) rfl #[.agg #[.int .i64 a0_0, .slice A0_1 l0_1.length c0_1, .slice A0_2 l0_2.length c0_2, .slice A0_3 l0_3.length c0_3]] rfl (by (try simp only [List.map_toArray, List.map_cons, List.map_nil]); first | done | rfl | (simp only [List.length_drop, List.length_take]; rfl)) ?_; (with_reducible refine (sig_Check.calls a0_0 _ _ l0_1 _ _ l0_2 _ _ l0_3 t168 _ ?side1 ?side2 ?side3 ?side4 ?side5 ?side6 A5.out).mono ?_); (case side1 => repeat (first | exact (Kd.bW HR0_1.out HB.out) | (with_reducible refine Kd.bV ?_ _) | (with_reducible refine Kd.bU ?_ _) | (with_reducible refine Kd.cA ?_))); (case side2 => exact HC0_1.out); (case side3 => repeat (first | exact (Kd.bW HR0_2.out HB.out) | (with_reducible refine Kd.bV ?_ _) | (with_reducible refine Kd.bU ?_ _) | (with_reducible refine Kd.cA ?_))); (case side4 => exact HC0_2.out); (case side5 => repeat (first | exact (Kd.bW HR0_3.out HB.out) | (with_reducible refine Kd.bV ?_ _) | (with_reducible refine Kd.bU ?_ _) | (with_reducible refine Kd.cA ?_))); (case side6 => exact HC0_3.out); rintro e w12 ⟨rfl, hb⟩; refine ⟨_, rfl, ?_⟩; have n0_ := Aside0.mk (bL (g := gb166) (o := .cells #[.int .i64 a0_0, .slice A0_1 l0_1.length c0_1, .slice A0_2 l0_2.length c0_2, .slice A0_3 l0_3.length c0_3] 52 (0, 0)) (by (with_reducible repeat (first | refine bF ?_ _ | refine bG ?_ | refine bE ?_ _)); exact BK166.out) hb); have n1_ := Aside0.mk (bL (g := gb167) (o := .cells #[.slice A3_0 l3_0.length c3_0] 44 (0, 0)) (by (with_reducible repeat (first | refine bF ?_ _ | refine bG ?_ | refine bE ?_ _)); exact BK167.out) hb); have n2_ := Aside0.mk (bM (by repeat (first | (with_reducible first | exact HB.out | apply bC | apply bA | apply bB | refine bD ?_ GE166.out | refine bD ?_ GE167.out) | exact HB.out)) hb); clear BK166; clear BK167; clear HB; have BK166 := n0_; have BK167 := n1_; have HB := n2_; clear n0_ n1_ n2_; (try clear hb); (try clear hb2); (try clear hk); (try clear hi)))
  (try simp only [Act.put, sZ1, sZ2, sZ3])
  go_cut [41] (fun v41 wc => ∃ (kq : Nat) (x41_6 : Bool), v41 = .bool x41_6 ∧ Aside0 (sig_Call.j0 kq l1 l2 x41_6 a0_0 l0_1 l0_2 l0_3 l3_0 = some (r1, r2)) ∧ Aside0 (kq ≤ k) ∧ Aside0 (wc.heap[gb166]? = some (.cells #[.int .i64 a0_0, (.slice A0_1 l0_1.length c0_1), (.slice A0_2 l0_2.length c0_2), (.slice A0_3 l0_3.length c0_3)] 52 (0, 0))) ∧ Aside0 (wc.heap[gb167]? = some (.cells #[(.slice A3_0 l3_0.length c3_0)] 44 (0, 0))) ∧ Aside0 (Below w.heap.size w wc))
  case first =>
   have H := HC7.out
   clear HC7
   by_cases c13 : (l1.length : Int) = a0_0
   ·rw [if_pos c13] at H
    have c13b0 : ((l1.length : Int) == a0_0) = true := beq_iff_eq.mpr c13
    have c13b1 : ((l1.length : Int) != a0_0) = false := bne_eq_false_iff_eq.mpr c13
    clear c13
    (first | rw [c13b0] | (simp only [bN, bP]; rw [c13b0]) | skip)
    have H' := Aside0.mk H
    clear H
    have hnb14 := NB166_167.out
    have hnc14 := NB167_166.out
    have hcz15_0 : w12.cell? ⟨gb166, 0, none⟩ = some (.int .i64 a0_0) := (bH BK166.out 0).trans rfl
    have hcz15_1 : w12.cell? ⟨gb166, 1, none⟩ = some (.slice A0_1 l0_1.length c0_1) := (bH BK166.out 1).trans rfl
    have hcz15_2 : w12.cell? ⟨gb166, 2, none⟩ = some (.slice A0_2 l0_2.length c0_2) := (bH BK166.out 2).trans rfl
    have hcz15_3 : w12.cell? ⟨gb166, 3, none⟩ = some (.slice A0_3 l0_3.length c0_3) := (bH BK166.out 3).trans rfl
    have hfz15_0 := bJ BK166.out 0
    have hfz15_1 := bJ BK166.out 1
    have hfz15_2 := bJ BK166.out 2
    have hfz15_3 := bJ BK166.out 3
    go_wp2
    go_meet
    case rel => exact ⟨_, (((l2.length : Int) != (l0_2.length : Int))), (by first | rfl | (simp; done) | (simp [*]; done)), H', ⟨by first | omega | exact Nat.le_refl _⟩, ⟨by (with_reducible repeat (first | refine bF ?_ _ | refine bG ?_ | refine bE ?_ _)); exact BK166.out⟩, ⟨by (with_reducible repeat (first | refine bF ?_ _ | refine bG ?_ | refine bE ?_ _)); exact BK167.out⟩, ⟨by repeat (first | (with_reducible first | exact HB.out | apply bC | apply bA | apply bB | refine bD ?_ GE166.out | refine bD ?_ GE167.out) | exact HB.out)⟩⟩
   ·rw [if_neg c13] at H
    have c13b0 : ((l1.length : Int) == a0_0) = false := beq_eq_false_iff_ne.mpr c13
    have c13b1 : ((l1.length : Int) != a0_0) = true := bne_iff_ne.mpr c13
    (first | rw [c13b0] | (simp only [bN, bP]; rw [c13b0]) | skip)
    have H' := Aside0.mk H
    clear H
    have hnb16 := NB166_167.out
    have hnc16 := NB167_166.out
    have hcz17_0 : w12.cell? ⟨gb166, 0, none⟩ = some (.int .i64 a0_0) := (bH BK166.out 0).trans rfl
    have hcz17_1 : w12.cell? ⟨gb166, 1, none⟩ = some (.slice A0_1 l0_1.length c0_1) := (bH BK166.out 1).trans rfl
    have hcz17_2 : w12.cell? ⟨gb166, 2, none⟩ = some (.slice A0_2 l0_2.length c0_2) := (bH BK166.out 2).trans rfl
    have hcz17_3 : w12.cell? ⟨gb166, 3, none⟩ = some (.slice A0_3 l0_3.length c0_3) := (bH BK166.out 3).trans rfl
    have hfz17_0 := bJ BK166.out 0
    have hfz17_1 := bJ BK166.out 1
    have hfz17_2 := bJ BK166.out 2
    have hfz17_3 := bJ BK166.out 3
    go_wp2
    go_meet
    case rel => exact ⟨_, (true), (by first | rfl | (simp; done) | (simp [*]; done)), H', ⟨by first | omega | exact Nat.le_refl _⟩, ⟨by (with_reducible repeat (first | refine bF ?_ _ | refine bG ?_ | refine bE ?_ _)); exact BK166.out⟩, ⟨by (with_reducible repeat (first | refine bF ?_ _ | refine bG ?_ | refine bE ?_ _)); exact BK167.out⟩, ⟨by repeat (first | (with_reducible first | exact HB.out | apply bC | apply bA | apply bB | refine bD ?_ GE166.out | refine bD ?_ GE167.out) | exact HB.out)⟩⟩
  case rest =>
   clear HC7
   try clear c1
   try clear c2
   try clear p2
   try clear c3
   try clear c4
   try clear c6
   try clear c6b0
   try clear c6b1
   try clear c10
   try clear c13
   try clear c13b0
   try clear c13b1
   try clear c14
   try clear c16
   try clear hcz11_0
   try clear hcz11_1
   try clear hcz11_2
   try clear hcz11_3
   try clear hcz15_0
   try clear hcz15_1
   try clear hcz15_2
   try clear hcz15_3
   try clear hcz17_0
   try clear hcz17_1
   try clear hcz17_2
   try clear hcz17_3
   try clear hfz11_0
   try clear hfz11_1
   try clear hfz11_2
   try clear hfz11_3
   try clear hfz15_0
   try clear hfz15_1
   try clear hfz15_2
   try clear hfz15_3
   try clear hfz17_0
   try clear hfz17_1
   try clear hfz17_2
   try clear hfz17_3
   obtain ⟨kq, x41_6, rfl, HA, HJ6, BK166, BK167, HB⟩ := hcut
   cases kq with
   | zero => exact absurd HA.out (by simp [sig_Call.j0])
   | succ kj6 =>
    have H := HA.out
    clear HA
    simp only [sig_Call.j0] at H
    by_cases c18 : x41_6 = true
    ·subst c18
     have H1 : (some (([] : List (S129)), 2)) = some (r1, r2) := by rw [if_pos rfl] at H; exact H
     clear H
     have H := H1
     clear H1
     simp only [Option.some.injEq, Prod.mk.injEq] at H
     obtain ⟨rfl, rfl⟩ := H
     go_wp2
     go_ret2
     exact ⟨_, by first | rfl | (simp [errW_none, errW_some] <;> rfl) | (simp [*, errW_none, errW_some] <;> rfl), by first | exact Kd.R_nil _ _ _ _ _ | exact Kd.N_nil _ _ _ _ _ | exact Kd.V_nil _ _ _ _ _ | exact Kd.Q_nil _ _ _ _ _ | exact Kd.S_nil _ _ _ _ _, by repeat (first | (with_reducible first | exact HB.out | apply bC | apply bA | apply bB | refine bD ?_ GE166.out | refine bD ?_ GE167.out) | exact HB.out)⟩
    ·replace c18 := Bool.eq_false_iff.mpr c18
     subst c18
     have H1 : (sig_Call.l0 kj6 l1 l2 ([] : List (S129)) l0_1 (l0_1.length : Int) 0 a0_0 l0_1 l0_2 l0_3 l3_0) = some (r1, r2) := by rw [if_neg (show ¬ (false = true) by decide)] at H; exact H
     clear H
     have H := H1
     clear H1
     have H' := Aside0.mk H
     clear H
     have hnb19 := NB166_167.out
     have hnc19 := NB167_166.out
     have hcz20_0 : wc.cell? ⟨gb166, 0, none⟩ = some (.int .i64 a0_0) := (bH BK166.out 0).trans rfl
     have hcz20_1 : wc.cell? ⟨gb166, 1, none⟩ = some (.slice A0_1 l0_1.length c0_1) := (bH BK166.out 1).trans rfl
     have hcz20_2 : wc.cell? ⟨gb166, 2, none⟩ = some (.slice A0_2 l0_2.length c0_2) := (bH BK166.out 2).trans rfl
     have hcz20_3 : wc.cell? ⟨gb166, 3, none⟩ = some (.slice A0_3 l0_3.length c0_3) := (bH BK166.out 3).trans rfl
     have hfz20_0 := bJ BK166.out 0
     have hfz20_1 := bJ BK166.out 1
     have hfz20_2 := bJ BK166.out 2
     have hfz20_3 := bJ BK166.out 3
     go_wp2
     go_loopg [11, 45] kj6 (fun kq v11 v45 w' => ∃ (x11_2 : List (S129)) (x45_2 : Int), v45 = .int .i64 x45_2 ∧ Aside0 (sig_Call.l0 kq l1 l2 x11_2 l0_1 (l0_1.length : Int) x45_2 a0_0 l0_1 l0_2 l0_3 l3_0 = some (r1, r2)) ∧ Aside0 (kq ≤ kj6) ∧ Aside0 (Kd.R k129 129 w' w.heap.size (fun _ => True) v11 x11_2) ∧ Aside0 (w'.heap[gb166]? = some (.cells #[.int .i64 a0_0, (.slice A0_1 l0_1.length c0_1), (.slice A0_2 l0_2.length c0_2), (.slice A0_3 l0_3.length c0_3)] 52 (0, 0))) ∧ Aside0 (w'.heap[gb167]? = some (.cells #[(.slice A3_0 l3_0.length c3_0)] 44 (0, 0))) ∧ Aside0 (Below w.heap.size w w'))
     case atStart => exact ⟨(([] : List (S129))), (0), (by first | rfl | (simp; done) | (simp [*]; done)), H', ⟨Nat.le_refl _⟩, ⟨by first | exact Kd.R_nil _ _ _ _ _ | exact Kd.N_nil _ _ _ _ _ | exact Kd.V_nil _ _ _ _ _ | exact Kd.Q_nil _ _ _ _ _ | exact Kd.S_nil _ _ _ _ _⟩, ⟨by (with_reducible repeat (first | refine bF ?_ _ | refine bG ?_ | refine bE ?_ _)); exact BK166.out⟩, ⟨by (with_reducible repeat (first | refine bF ?_ _ | refine bG ?_ | refine bE ?_ _)); exact BK167.out⟩, ⟨by repeat (first | (with_reducible first | exact HB.out | apply bC | apply bA | apply bB | refine bD ?_ GE166.out | refine bD ?_ GE167.out) | exact HB.out)⟩⟩
     case round =>
      clear H'
      try clear c1
      try clear c2
      try clear p2
      try clear c3
      try clear c4
      try clear c6
      try clear c6b0
      try clear c6b1
      try clear c10
      try clear c13
      try clear c13b0
      try clear c13b1
      try clear c14
      try clear c16
      try clear c18
      try clear c19
      try clear hcz11_0
      try clear hcz11_1
      try clear hcz11_2
      try clear hcz11_3
      try clear hcz15_0
      try clear hcz15_1
      try clear hcz15_2
      try clear hcz15_3
      try clear hcz17_0
      try clear hcz17_1
      try clear hcz17_2
      try clear hcz17_3
      try clear hcz20_0
      try clear hcz20_1
      try clear hcz20_2
      try clear hcz20_3
      try clear hfz11_0
      try clear hfz11_1
      try clear hfz11_2
      try clear hfz11_3
      try clear hfz15_0
      try clear hfz15_1
      try clear hfz15_2
      try clear hfz15_3
      try clear hfz17_0
      try clear hfz17_1
      try clear hfz17_2
      try clear hfz17_3
      try clear hfz20_0
      try clear hfz20_1
      try clear hfz20_2
      try clear hfz20_3
      try clear p2
      obtain ⟨x11_2, x45_2, rfl, HA, HK2, HO_11, BK166, BK167, HB⟩ := hrel
      cases gk with
      | zero => exact absurd HA.out (by simp [sig_Call.l0])
      | succ k2 =>
       have H := HA.out
       clear HA
       simp only [sig_Call.l0] at H
       by_cases c21 : x45_2 < (l0_1.length : Int)
       ·rw [if_pos c21] at H
        have c21b0 : decide (x45_2 < (l0_1.length : Int)) = true := decide_eq_true c21
        clear c21
        by_cases c22 : 0 ≤ x45_2
        ·rw [if_pos c22] at H
         have c22b0 : decide (0 ≤ x45_2) = true := decide_eq_true c22
         clear c22
         by_cases c23 : x45_2 < (l0_1.length : Int)
         ·rw [if_pos c23] at H
          have c23b0 : decide (x45_2 < (l0_1.length : Int)) = true := decide_eq_true c23
          clear c23
          by_cases c24 : 0 ≤ ((rd_T117 l0_1 x45_2).f0)
          ·rw [if_pos c24] at H
           have c24b0 : decide (0 ≤ ((rd_T117 l0_1 x45_2).f0)) = true := decide_eq_true c24
           clear c24
           by_cases c25 : ((rd_T117 l0_1 x45_2).f0) < (l1.length : Int)
           ·rw [if_pos c25] at H
            have c25b0 : decide (((rd_T117 l0_1 x45_2).f0) < (l1.length : Int)) = true := decide_eq_true c25
            clear c25
            by_cases c26 : 0 ≤ ((rd_T117 l0_1 x45_2).f1)
            ·rw [if_pos c26] at H
             have c26b0 : decide (0 ≤ ((rd_T117 l0_1 x45_2).f1)) = true := decide_eq_true c26
             clear c26
             by_cases c27 : ((rd_T117 l0_1 x45_2).f1) < (l1.length : Int)
             ·rw [if_pos c27] at H
              have c27b0 : decide (((rd_T117 l0_1 x45_2).f1) < (l1.length : Int)) = true := decide_eq_true c27
              clear c27
              by_cases c28 : x11_2.length < 3518437208883
              ·rw [if_pos c28] at H
               have LMc28 := Aside0.mk c28
               clear c28
               obtain ⟨y173, hy173⟩ : ∃ y_ : List (S129), y_ = (x11_2 ++ [(⟨rd l1 ((rd_T117 l0_1 x45_2).f0), rd l1 ((rd_T117 l0_1 x45_2).f1), 4, x45_2, false⟩ : S129)]) := ⟨_, rfl⟩
               replace H : (sig_Call.l0 k2 l1 l2 y173 l0_1 (l0_1.length : Int) (wrap64 (x45_2 + 1)) a0_0 l0_1 l0_2 l0_3 l3_0) = some (r1, r2) := by first | (rw [hy173]; with_reducible exact H) | (have H2_ := (Option.bind_some _ _).symm.trans H; rw [hy173]; with_reducible exact H2_) | (have H2_ := (Option.bind_some _ _).symm.trans H; with_reducible exact H2_) | with_reducible exact H | (rw [hy173]; exact H) | exact H
               have Ny173 := Aside0.mk hy173
               clear hy173
               have H' := Aside0.mk H
               clear H
               have p169 : 0 ≤ (x45_2 : Int) := of_decide_eq_true (by first | (with_reducible assumption) | assumption)
               have q169 : x45_2 < (l0_1.length : Int) := of_decide_eq_true (by first | (with_reducible assumption) | assumption)
               obtain ⟨ad169, e169, hx169_0, hx169_1⟩ := at_T117 HR0_1.out x45_2 p169 q169
               cases e169
               replace hx169_0 := (HB.out.cell (World.block_lt_of_cell? w _ hx169_0)).trans hx169_0
               replace hx169_1 := (HB.out.cell (World.block_lt_of_cell? w _ hx169_1)).trans hx169_1
               replace p169 := eq_true p169
               replace q169 := eq_true q169
               try go_wp2_with (first | ((with_reducible refine bZ (N := 13) rfl ?_); (try (refine cE (by rfl) ?_; dsimp only)); refine bY ?hg (N := 13) ?hd (cs := #[.int .i64 0, .int .i64 0]) (t := 117) ?hr ?_; (case hd => rfl); (case hg => rfl); (case hr => first | (go_simp; done) | (go_simp; rfl)); intro gb170 hg w29 hbox hb; have n0_ := Aside0.mk (Kd.cC (by (with_reducible repeat (first | apply Kd.bR | apply Kd.bQ | apply Kd.bT)); exact HO_11.out) hb); have n1_ := Aside0.mk (bL (g := gb166) (o := .cells #[.int .i64 a0_0, .slice (some ad169) l0_1.length c0_1, .slice A0_2 l0_2.length c0_2, .slice A0_3 l0_3.length c0_3] 52 (0, 0)) (by (with_reducible repeat (first | refine bF ?_ _ | refine bG ?_ | refine bE ?_ _)); exact BK166.out) hb); have n2_ := Aside0.mk (bL (g := gb167) (o := .cells #[.slice A3_0 l3_0.length c3_0] 44 (0, 0)) (by (with_reducible repeat (first | refine bF ?_ _ | refine bG ?_ | refine bE ?_ _)); exact BK167.out) hb); have n3_ := Aside0.mk (bM (by repeat (first | (with_reducible first | exact HB.out | apply bC | apply bA | apply bB | refine bD ?_ GE166.out | refine bD ?_ GE167.out) | exact HB.out)) hb); have n4_ := Aside0.mk (hbox); have n5_ := Aside0.mk ((by rw [hg]; exact (bK (by repeat (first | (with_reducible first | exact HB.out | apply bC | apply bA | apply bB | refine bD ?_ GE166.out | refine bD ?_ GE167.out) | exact HB.out))) : w.heap.size ≤ gb170)); have n6_ := Aside0.mk ((by rw [hg]; exact (bK (by repeat (first | (with_reducible first | exact HB.out | apply bC | apply bA | apply bB | refine bD ?_ GE166.out | refine bD ?_ GE167.out) | exact HB.out))) : w.heap.size ≤ gb170)); have n7_ := Aside0.mk ((by rw [hg]; exact Nat.ne_of_lt (cD (g := gb166) (o := .cells #[.int .i64 a0_0, .slice (some ad169) l0_1.length c0_1, .slice A0_2 l0_2.length c0_2, .slice A0_3 l0_3.length c0_3] 52 (0, 0)) (by (with_reducible repeat (first | refine bF ?_ _ | refine bG ?_ | refine bE ?_ _)); exact BK166.out)) : gb166 ≠ gb170)); have n8_ := Aside0.mk ((by rw [hg]; exact Nat.ne_of_gt (cD (g := gb166) (o := .cells #[.int .i64 a0_0, .slice (some ad169) l0_1.length c0_1, .slice A0_2 l0_2.length c0_2, .slice A0_3 l0_3.length c0_3] 52 (0, 0)) (by (with_reducible repeat (first | refine bF ?_ _ | refine bG ?_ | refine bE ?_ _)); exact BK166.out)) : gb170 ≠ gb166)); have n9_ := Aside0.mk ((by rw [hg]; exact Nat.ne_of_lt (cD (g := gb167) (o := .cells #[.slice A3_0 l3_0.length c3_0] 44 (0, 0)) (by (with_reducible repeat (first | refine bF ?_ _ | refine bG ?_ | refine bE ?_ _)); exact BK167.out)) : gb167 ≠ gb170)); have n10_ := Aside0.mk ((by rw [hg]; exact Nat.ne_of_gt (cD (g := gb167) (o := .cells #[.slice A3_0 l3_0.length c3_0] 44 (0, 0)) (by (with_reducible repeat (first | refine bF ?_ _ | refine bG ?_ | refine bE ?_ _)); exact BK167.out)) : gb170 ≠ gb167)); clear HO_11; clear BK166; clear BK167; clear HB; have HO_11 := n0_; have BK166 := n1_; have BK167 := n2_; have HB := n3_; have BK170 := n4_; have GW170 := n5_; have GE170 := n6_; have NB166_170 := n7_; have NB170_166 := n8_; have NB167_170 := n9_; have NB170_167 := n10_; clear n0_ n1_ n2_ n3_ n4_ n5_ n6_ n7_ n8_ n9_ n10_; clear hb hbox hg; have hnb30 := NB170_166.out; have hnc30 := NB166_170.out; have hnb31 := NB170_167.out; have hnc31 := NB167_170.out; have hcz32_0 : w29.cell? ⟨gb170, 0, none⟩ = some (.int .i64 0) := (bH BK170.out 0).trans rfl; have hcz32_1 : w29.cell? ⟨gb170, 1, none⟩ = some (.int .i64 0) := (bH BK170.out 1).trans rfl; have hfz32_0 := bJ BK170.out 0; have hfz32_1 := bJ BK170.out 1))
               have n0_ : Aside0 (Kd.R k129 129 ((w29.setCell ⟨gb170, 0, none⟩ (.int .i64 ((rd_T117 l0_1 x45_2).f0))).setCell ⟨gb170, 1, none⟩ (.int .i64 ((rd_T117 l0_1 x45_2).f1))) w.heap.size (fun _ => True) u11 x11_2) := ⟨by (with_reducible repeat (first | apply Kd.bR | apply Kd.bQ | apply Kd.bT)); exact Kd.R_mono (Kd.R_far (p := ⟨gb170, 1, none⟩) (Kd.R_far (p := ⟨gb170, 0, none⟩) (Kd.R_types HO_11.out BK170.out (by decide)) (fun _ hk => hk.2) (.int .i64 ((rd_T117 l0_1 x45_2).f0))) (fun _ hk => hk.2) (.int .i64 ((rd_T117 l0_1 x45_2).f1))) (fun _ hk => trivial)⟩
               have n1_ : Aside0 (((w29.setCell ⟨gb170, 0, none⟩ (.int .i64 ((rd_T117 l0_1 x45_2).f0))).setCell ⟨gb170, 1, none⟩ (.int .i64 ((rd_T117 l0_1 x45_2).f1))).heap[gb166]? = some (.cells #[.int .i64 a0_0, .slice (some ad169) l0_1.length c0_1, .slice A0_2 l0_2.length c0_2, .slice A0_3 l0_3.length c0_3] 52 (0, 0))) := ⟨by (with_reducible repeat (first | refine bF ?_ _ | refine bG ?_ | refine bE ?_ _)); refine blk_far ?_ NB166_170.out _; (with_reducible repeat (first | refine bF ?_ _ | refine bG ?_ | refine bE ?_ _)); refine blk_far ?_ NB166_170.out _; (with_reducible repeat (first | refine bF ?_ _ | refine bG ?_ | refine bE ?_ _)); exact BK166.out⟩
               have n2_ : Aside0 (((w29.setCell ⟨gb170, 0, none⟩ (.int .i64 ((rd_T117 l0_1 x45_2).f0))).setCell ⟨gb170, 1, none⟩ (.int .i64 ((rd_T117 l0_1 x45_2).f1))).heap[gb167]? = some (.cells #[.slice A3_0 l3_0.length c3_0] 44 (0, 0))) := ⟨by (with_reducible repeat (first | refine bF ?_ _ | refine bG ?_ | refine bE ?_ _)); refine blk_far ?_ NB167_170.out _; (with_reducible repeat (first | refine bF ?_ _ | refine bG ?_ | refine bE ?_ _)); refine blk_far ?_ NB167_170.out _; (with_reducible repeat (first | refine bF ?_ _ | refine bG ?_ | refine bE ?_ _)); exact BK167.out⟩
               have n3_ : Aside0 (((w29.setCell ⟨gb170, 0, none⟩ (.int .i64 ((rd_T117 l0_1 x45_2).f0))).setCell ⟨gb170, 1, none⟩ (.int .i64 ((rd_T117 l0_1 x45_2).f1))).heap[gb170]? = some (.cells #[.int .i64 ((rd_T117 l0_1 x45_2).f0), .int .i64 ((rd_T117 l0_1 x45_2).f1)] 117 (0, 0))) := ⟨by (with_reducible repeat (first | refine bF ?_ _ | refine bG ?_ | refine bE ?_ _)); refine blk_put (cs := #[.int .i64 ((rd_T117 l0_1 x45_2).f0), .int .i64 0]) ?_ 1 _ rfl; (with_reducible repeat (first | refine bF ?_ _ | refine bG ?_ | refine bE ?_ _)); refine blk_put (cs := #[.int .i64 0, .int .i64 0]) ?_ 0 _ rfl; (with_reducible repeat (first | refine bF ?_ _ | refine bG ?_ | refine bE ?_ _)); exact BK170.out⟩
               have n4_ : Aside0 (Below w.heap.size w ((w29.setCell ⟨gb170, 0, none⟩ (.int .i64 ((rd_T117 l0_1 x45_2).f0))).setCell ⟨gb170, 1, none⟩ (.int .i64 ((rd_T117 l0_1 x45_2).f1)))) := ⟨by repeat (first | (with_reducible first | exact HB.out | apply bC | apply bA | apply bB | refine bD ?_ GE166.out | refine bD ?_ GE167.out | refine bD ?_ GE170.out) | exact HB.out)⟩
               (try clear HO_11)
               (try clear BK166)
               (try clear BK167)
               (try clear BK170)
               (try clear HB)
               generalize ((w29.setCell ⟨gb170, 0, none⟩ (.int .i64 ((rd_T117 l0_1 x45_2).f0))).setCell ⟨gb170, 1, none⟩ (.int .i64 ((rd_T117 l0_1 x45_2).f1))) = w33 at n0_ n1_ n2_ n3_ n4_ ⊢
               have HO_11 := n0_
               have BK166 := n1_
               have BK167 := n2_
               have BK170 := n3_
               have HB := n4_
               clear n0_ n1_ n2_ n3_ n4_
               have n0_ := Aside0.mk (Kd.bT HO_11.out)
               have n1_ := Aside0.mk (bG BK166.out)
               have n2_ := Aside0.mk (bG BK167.out)
               have n3_ := Aside0.mk (bG BK170.out)
               have n4_ := Aside0.mk (bB HB.out)
               clear HO_11
               clear BK166
               clear BK167
               clear BK170
               clear HB
               have HO_11 := n0_
               have BK166 := n1_
               have BK167 := n2_
               have BK170 := n3_
               have HB := n4_
               clear n0_ n1_ n2_ n3_ n4_
               have p171 : 0 ≤ (((rd_T117 l0_1 x45_2).f0) : Int) := of_decide_eq_true (by first | (with_reducible assumption) | assumption)
               have q171 : ((rd_T117 l0_1 x45_2).f0) < (l1.length : Int) := of_decide_eq_true (by first | (with_reducible assumption) | assumption)
               obtain ⟨ad171, e171, hx171_0⟩ := Kd.at_int HR1.out ((rd_T117 l0_1 x45_2).f0) p171 q171
               have hw171_0 := hx171_0
               cases e171
               replace hx171_0 := (HB.out.cell (World.block_lt_of_cell? w _ hx171_0)).trans hx171_0
               replace p171 := eq_true p171
               replace q171 := eq_true q171
               have p172 : 0 ≤ (((rd_T117 l0_1 x45_2).f1) : Int) := of_decide_eq_true (by first | (with_reducible assumption) | assumption)
               have q172 : ((rd_T117 l0_1 x45_2).f1) < (l1.length : Int) := of_decide_eq_true (by first | (with_reducible assumption) | assumption)
               obtain ⟨ad172, e172, hx172_0⟩ := Kd.at_int HR1.out ((rd_T117 l0_1 x45_2).f1) p172 q172
               have hw172_0 := hx172_0
               obtain rfl : ad171 = ad172 := (by injection e172)
               replace hx172_0 := (HB.out.cell (World.block_lt_of_cell? w _ hx172_0)).trans hx172_0
               replace p172 := eq_true p172
               replace q172 := eq_true q172
               refine start_ (n := 16) (S := fun w' => w'.cell? ⟨gb170, 0, none⟩ = some (.int .i64 ((rd_T117 l0_1 x45_2).f0)) ∧ w'.cell? ⟨gb170, 1, none⟩ = some (.int .i64 ((rd_T117 l0_1 x45_2).f1)) ∧ w'.cell? (ad171.add (((rd_T117 l0_1 x45_2).f0)).toNat) = some (.int .i64 (rd l1 ((rd_T117 l0_1 x45_2).f0))) ∧ w'.cell? (ad171.add (((rd_T117 l0_1 x45_2).f1)).toNat) = some (.int .i64 (rd l1 ((rd_T117 l0_1 x45_2).f1)))) (ds := []) #[false, false, false, false, false, false, false, false, false, false, false, false, false, false, false, false] (by kernel_rfl) rfl rfl ⟨(bH BK170.out 0).trans rfl, (bH BK170.out 1).trans rfl, ((HB.out.cell (World.block_lt_of_cell? w _ hw171_0)).trans hw171_0), ((HB.out.cell (World.block_lt_of_cell? w _ hw172_0)).trans hw172_0)⟩ (fun hHeld => ?_); refine with_tabW sig_Call.tab10 sig_Call.bits10 (fun HT_ HW_ => ?_)
               generalize w33.drew = w34 at HO_11 BK166 BK167 BK170 HB hx171_0 hx172_0 hHeld ⊢
               refine bX (i := 0) (N := some 50) (v := ?_) (a' := ?_) #[true, false, false, false, false, false, false, false, false, false, false, false, false, false, false, false] rfl rfl (bS HT_.out (by kernel_rfl)) (fun _ _ _ h => h) (Or.inl ⟨by rfl, ?_⟩) ?_ ?_
               rotate_left
               ·intro w'
                go_simp
                with_reducible rfl
               rotate_left
               ·simp only [Act.put, sZ1, sZ2, sZ3, bN, bP]
                rfl
               refine bX (i := 1) (N := some 51) (v := ?_) (a' := ?_) #[true, true, false, false, false, false, false, false, false, false, false, false, false, false, false, false] rfl rfl (bS HT_.out (by kernel_rfl)) (fun _ _ _ h => h) (Or.inl ⟨by rfl, ?_⟩) ?_ ?_
               rotate_left
               ·intro w'
                go_simp
                with_reducible rfl
               rotate_left
               ·simp only [Act.put, sZ1, sZ2, sZ3, bN, bP]
                rfl
               refine bX (i := 2) (N := some 52) (v := ?_) (a' := ?_) #[true, true, true, false, false, false, false, false, false, false, false, false, false, false, false, false] rfl rfl (bS HT_.out (by kernel_rfl)) (fun _ _ _ h => h) (Or.inl ⟨by rfl, ?_⟩) ?_ ?_
               rotate_left
               ·intro w'
                go_simp
                with_reducible rfl
               rotate_left
               ·simp only [Act.put, sZ1, sZ2, sZ3, bN, bP]
                rfl
               refine bX (i := 6) (N := some 56) (v := ?_) (a' := ?_) #[true, true, true, false, false, false, true, false, false, false, false, false, false, false, false, false] rfl rfl (bS HT_.out (by kernel_rfl)) (fun _ _ _ h => h) (Or.inl ⟨by rfl, ?_⟩) ?_ ?_
               rotate_left
               ·intro w'
                go_simp
                with_reducible rfl
               rotate_left
               ·simp only [Act.put, sZ1, sZ2, sZ3, bN, bP]
                rfl
               refine bX (i := 7) (N := some 57) (v := ?_) (a' := ?_) #[true, true, true, false, false, false, true, true, false, false, false, false, false, false, false, false] rfl rfl (bS HT_.out (by kernel_rfl)) (fun _ _ _ h => h) (Or.inl ⟨by rfl, ?_⟩) ?_ ?_
               rotate_left
               ·intro w'
                go_simp
                with_reducible rfl
               rotate_left
               ·simp only [Act.put, sZ1, sZ2, sZ3, bN, bP]
                rfl
               refine bX (i := 11) (N := some 61) (v := ?_) (a' := ?_) #[true, true, true, false, false, false, true, true, false, false, false, true, false, false, false, false] rfl rfl (bS HT_.out (by kernel_rfl)) (fun _ _ _ h => h) (Or.inl ⟨by rfl, ?_⟩) ?_ ?_
               rotate_left
               ·intro w'
                go_simp
                with_reducible rfl
               rotate_left
               ·simp only [Act.put, sZ1, sZ2, sZ3, bN, bP]
                rfl
               refine take_ (i := 3) (N := some 53) (v := ?_) (a' := ?_) #[true, true, true, true, false, false, true, true, false, false, false, true, false, false, false, false] rfl rfl (take_ofW HT_.out HW_.out (by kernel_rfl)) (fun _ _ _ h => h) (Or.inl ⟨by rfl, ?_⟩) hHeld ?_ ?_
               rotate_left
               ·rintro w' ⟨s0, s1, s2, s3⟩
                go_simp
                with_reducible rfl
               rotate_left
               ·simp only [Act.put, sZ1, sZ2, sZ3, bN, bP]
                rfl
               refine bX (i := 4) (N := some 54) (v := ?_) (a' := ?_) #[true, true, true, true, true, false, true, true, false, false, false, true, false, false, false, false] rfl rfl (bS HT_.out (by kernel_rfl)) (fun _ _ _ h => h) (Or.inl ⟨by rfl, ?_⟩) ?_ ?_
               rotate_left
               ·intro w'
                go_simp
                with_reducible rfl
               rotate_left
               ·simp only [Act.put, sZ1, sZ2, sZ3, bN, bP]
                rfl
               refine take_ (i := 5) (N := some 55) (v := ?_) (a' := ?_) #[true, true, true, true, true, true, true, true, false, false, false, true, false, false, false, false] rfl rfl (take_ofW HT_.out HW_.out (by kernel_rfl)) (fun _ _ _ h => h) (Or.inl ⟨by rfl, ?_⟩) hHeld ?_ ?_
               rotate_left
               ·rintro w' ⟨s0, s1, s2, s3⟩
                go_simp
                with_reducible rfl
               rotate_left
               ·simp only [Act.put, sZ1, sZ2, sZ3, bN, bP]
                rfl
               refine take_ (i := 8) (N := some 58) (v := ?_) (a' := ?_) #[true, true, true, true, true, true, true, true, true, false, false, true, false, false, false, false] rfl rfl (take_ofW HT_.out HW_.out (by kernel_rfl)) (fun _ _ _ h => h) (Or.inl ⟨by rfl, ?_⟩) hHeld ?_ ?_
               rotate_left
               ·rintro w' ⟨s0, s1, s2, s3⟩
                go_simp
                with_reducible rfl
               rotate_left
               ·simp only [Act.put, sZ1, sZ2, sZ3, bN, bP]
                rfl
               refine bX (i := 9) (N := some 59) (v := ?_) (a' := ?_) #[true, true, true, true, true, true, true, true, true, true, false, true, false, false, false, false] rfl rfl (bS HT_.out (by kernel_rfl)) (fun _ _ _ h => h) (Or.inl ⟨by rfl, ?_⟩) ?_ ?_
               rotate_left
               ·intro w'
                go_simp
                with_reducible rfl
               rotate_left
               ·simp only [Act.put, sZ1, sZ2, sZ3, bN, bP]
                rfl
               refine take_ (i := 10) (N := some 60) (v := ?_) (a' := ?_) #[true, true, true, true, true, true, true, true, true, true, true, true, false, false, false, false] rfl rfl (take_ofW HT_.out HW_.out (by kernel_rfl)) (fun _ _ _ h => h) (Or.inl ⟨by rfl, ?_⟩) hHeld ?_ ?_
               rotate_left
               ·rintro w' ⟨s0, s1, s2, s3⟩
                go_simp
                with_reducible rfl
               rotate_left
               ·simp only [Act.put, sZ1, sZ2, sZ3, bN, bP]
                rfl
               refine bX (i := 12) (N := some 62) (v := ?_) (a' := ?_) #[true, true, true, true, true, true, true, true, true, true, true, true, true, false, false, false] rfl rfl (bS HT_.out (by kernel_rfl)) (fun _ _ _ h => h) (Or.inl ⟨by rfl, ?_⟩) ?_ ?_
               rotate_left
               ·intro w'
                go_simp
                with_reducible rfl
               rotate_left
               ·simp only [Act.put, sZ1, sZ2, sZ3, bN, bP]
                rfl
               refine one_ (i := 13) (N := some 63) #[true, true, true, true, true, true, true, true, true, true, true, true, true, true, false, false] rfl rfl (one_of HT_.out (by kernel_rfl)) (by decide) (fun K hK => ?_)
               refine value_ (w1 := ?_) (v := ?_) (by rfl) rfl ?_ ?_
               rotate_left 2
               ·go_simp
                constructor
                ·rfl
                ·rfl
               refine hK.out _ _ ⟨(bH (bE BK170.out _) 0).trans rfl, (bH (bE BK170.out _) 1).trans rfl, (World.cell?_alloc_lt _ _ _ (World.block_lt_of_cell? _ _ (((HB.out.cell (World.block_lt_of_cell? w _ hw171_0)).trans hw171_0)))).trans (((HB.out.cell (World.block_lt_of_cell? w _ hw171_0)).trans hw171_0)), (World.cell?_alloc_lt _ _ _ (World.block_lt_of_cell? _ _ (((HB.out.cell (World.block_lt_of_cell? w _ hw172_0)).trans hw172_0)))).trans (((HB.out.cell (World.block_lt_of_cell? w _ hw172_0)).trans hw172_0))⟩ (fun hHeld => ?_)
               clear hK K
               refine norm_ (a' := ?_) ?_ ?_
               rotate_left
               ·show Act.put _ (some 63) _ = _
                simp only [Act.put, sZ1, sZ2, sZ3, bN, bP]
                rfl
               refine one_ (i := 14) (N := some 64) #[true, true, true, true, true, true, true, true, true, true, true, true, true, true, true, false] rfl rfl (one_of HT_.out (by kernel_rfl)) (by decide) (fun K hK => ?_)
               refine Kd.R_append_step k129 (w0 := w) w.heap.size (by rfl) (.tmp 50) (.tmp 63) 60 129 (.agg #[(.int .i64 0), (.int .i64 0), (.int .i64 0), (.int .i64 0), (.bool false)]) 40 rfl Try.underlying60 info129 rfl (by decide) (by omega) u11 x11_2 (⟨rd l1 ((rd_T117 l0_1 x45_2).f0), rd l1 ((rd_T117 l0_1 x45_2).f1), 4, x45_2, false⟩ : S129) [.int .i64 (rd l1 ((rd_T117 l0_1 x45_2).f0)), .int .i64 (rd l1 ((rd_T117 l0_1 x45_2).f1)), .int .i64 4, .int .i64 x45_2, .bool false] (fun _ => True) (fun _ => False) rfl rfl ?aP (fun _ hk => hk.elim) ?aF ?aO ?aB ?aS ?aL ?_
               (case aP => exact k129_mkM _ _ _ (⟨rd l1 ((rd_T117 l0_1 x45_2).f0), rd l1 ((rd_T117 l0_1 x45_2).f1), 4, x45_2, false⟩ : S129))
               (case aB => exact (by repeat (first | (with_reducible first | exact HB.out | apply bC | apply bA | apply bB | refine bD ?_ GE166.out | refine bD ?_ GE167.out | refine bD ?_ GE170.out) | exact HB.out)))
               (case aF => exact (fun _ _ => trivial))
               (case aO => exact (by (with_reducible repeat (first | apply Kd.bR | apply Kd.bQ | apply Kd.bT)); exact HO_11.out))
               (case aS => exact (bK (by repeat (first | (with_reducible first | exact HB.out | apply bC | apply bA | apply bB | refine bD ?_ GE166.out | refine bD ?_ GE167.out | refine bD ?_ GE170.out) | exact HB.out))))
               (case aL => have := LMc28.out; omega)
               intro v174 w35 ho hb hg hat
               rw [← Ny173.out] at ho
               have n0_ := Aside0.mk (blk_grown (g := gb166) (o := .cells #[.int .i64 a0_0, .slice (some ad169) l0_1.length c0_1, .slice A0_2 l0_2.length c0_2, .slice A0_3 l0_3.length c0_3] 52 (0, 0)) (by (with_reducible repeat (first | refine bF ?_ _ | refine bG ?_ | refine bE ?_ _)); exact BK166.out) hg (Kd.R_ne HO_11.out BK166.out (by decide)))
               have n1_ := Aside0.mk (blk_grown (g := gb167) (o := .cells #[.slice A3_0 l3_0.length c3_0] 44 (0, 0)) (by (with_reducible repeat (first | refine bF ?_ _ | refine bG ?_ | refine bE ?_ _)); exact BK167.out) hg (Kd.R_ne HO_11.out BK167.out (by decide)))
               have n2_ := Aside0.mk (blk_grown (g := gb170) (o := .cells #[.int .i64 ((rd_T117 l0_1 x45_2).f0), .int .i64 ((rd_T117 l0_1 x45_2).f1)] 117 (0, 0)) (by (with_reducible repeat (first | refine bF ?_ _ | refine bG ?_ | refine bE ?_ _)); exact BK170.out) hg (Kd.R_ne HO_11.out BK170.out (by decide)))
               have n3_ := Aside0.mk (hb)
               have n4_ := Aside0.mk (ho)
               clear BK166
               clear BK167
               clear BK170
               clear HB
               clear HO_11
               have BK166 := n0_
               have BK167 := n1_
               have BK170 := n2_
               have HB := n3_
               have HO175 := n4_
               clear n0_ n1_ n2_ n3_ n4_
               clear ho hb hg hat
               refine hK.out _ _ ⟨(bH BK170.out 0).trans rfl, (bH BK170.out 1).trans rfl, ((HB.out.cell (World.block_lt_of_cell? w _ hw171_0)).trans hw171_0), ((HB.out.cell (World.block_lt_of_cell? w _ hw172_0)).trans hw172_0)⟩ (fun hHeld => ?_)
               clear hK K
               refine norm_ (a' := ?_) ?_ ?_
               rotate_left
               ·show Act.put _ (some 64) _ = _
                simp only [Act.put, sZ1, sZ2, sZ3, bN, bP]
                rfl
               refine bX (i := 15) (N := some 11) (v := ?_) (a' := ?_) #[true, true, true, true, true, true, true, true, true, true, true, true, true, true, true, true] rfl rfl (bS HT_.out (by kernel_rfl)) (fun _ _ _ h => h) (Or.inl ⟨by rfl, ?_⟩) ?_ ?_
               rotate_left
               ·intro w'
                go_simp
                with_reducible rfl
               rotate_left
               ·simp only [Act.put, sZ1, sZ2, sZ3, bN, bP]
                rfl
               refine done_ (done_of HT_.out (by kernel_rfl)) ?_
               try go_wp2
               go_roundg k2
               case measure => have := HJ6.out; have := HK2.out; omega
               case rel => exact ⟨(y173), (wrap64 (x45_2 + 1)), (by first | rfl | (simp; done) | (simp [*]; done)), H', ⟨by have := HJ6.out; have := HK2.out; omega⟩, ⟨by (with_reducible repeat (first | apply Kd.bR | apply Kd.bQ | apply Kd.bT)); exact HO175.out⟩, ⟨by (with_reducible repeat (first | refine bF ?_ _ | refine bG ?_ | refine bE ?_ _)); exact BK166.out⟩, ⟨by (with_reducible repeat (first | refine bF ?_ _ | refine bG ?_ | refine bE ?_ _)); exact BK167.out⟩, ⟨by repeat (first | (with_reducible first | exact HB.out | apply bC | apply bA | apply bB | refine bD ?_ GE166.out | refine bD ?_ GE167.out | refine bD ?_ GE170.out) | exact HB.out)⟩⟩
              ·rw [if_neg c28] at H
               exact absurd H (by simp)
             ·rw [if_neg c27] at H
              exact absurd H (by simp)
            ·rw [if_neg c26] at H
             exact absurd H (by simp)
           ·rw [if_neg c25] at H
            exact absurd H (by simp)
          ·rw [if_neg c24] at H
           exact absurd H (by simp)
         ·rw [if_neg c23] at H
          exact absurd H (by simp)
        ·rw [if_neg c22] at H
         exact absurd H (by simp)
       ·rw [if_neg c21] at H
        have c21b0 : decide (x45_2 < (l0_1.length : Int)) = false := decide_eq_false c21
        clear c21
        have H' := Aside0.mk H
        clear H
        have hnb36 := NB166_167.out
        have hnc36 := NB167_166.out
        have hcz37_0 : wr.cell? ⟨gb166, 0, none⟩ = some (.int .i64 a0_0) := (bH BK166.out 0).trans rfl
        have hcz37_1 : wr.cell? ⟨gb166, 1, none⟩ = some (.slice A0_1 l0_1.length c0_1) := (bH BK166.out 1).trans rfl
        have hcz37_2 : wr.cell? ⟨gb166, 2, none⟩ = some (.slice A0_2 l0_2.length c0_2) := (bH BK166.out 2).trans rfl
        have hcz37_3 : wr.cell? ⟨gb166, 3, none⟩ = some (.slice A0_3 l0_3.length c0_3) := (bH BK166.out 3).trans rfl
        have hfz37_0 := bJ BK166.out 0
        have hfz37_1 := bJ BK166.out 1
        have hfz37_2 := bJ BK166.out 2
        have hfz37_3 := bJ BK166.out 3
        go_wp2
        go_loopg [11, 69] k2 (fun kq v11 v69 w' => ∃ (x11_3 : List (S129)) (x69_3 : Int), v69 = .int .i64 x69_3 ∧ Aside0 (sig_Call.l1 kq l1 l2 x11_3 l0_2 (l0_2.length : Int) x69_3 a0_0 l0_1 l0_2 l0_3 l3_0 = some (r1, r2)) ∧ Aside0 (kq ≤ k2) ∧ Aside0 (Kd.R k129 129 w' w.heap.size (fun _ => True) v11 x11_3) ∧ Aside0 (w'.heap[gb166]? = some (.cells #[.int .i64 a0_0, (.slice A0_1 l0_1.length c0_1), (.slice A0_2 l0_2.length c0_2), (.slice A0_3 l0_3.length c0_3)] 52 (0, 0))) ∧ Aside0 (w'.heap[gb167]? = some (.cells #[(.slice A3_0 l3_0.length c3_0)] 44 (0, 0))) ∧ Aside0 (Below w.heap.size w w'))
        case atStart => exact ⟨(x11_2), (0), (by first | rfl | (simp; done) | (simp [*]; done)), H', ⟨Nat.le_refl _⟩, ⟨by (with_reducible repeat (first | apply Kd.bR | apply Kd.bQ | apply Kd.bT)); exact HO_11.out⟩, ⟨by (with_reducible repeat (first | refine bF ?_ _ | refine bG ?_ | refine bE ?_ _)); exact BK166.out⟩, ⟨by (with_reducible repeat (first | refine bF ?_ _ | refine bG ?_ | refine bE ?_ _)); exact BK167.out⟩, ⟨by repeat (first | (with_reducible first | exact HB.out | apply bC | apply bA | apply bB | refine bD ?_ GE166.out | refine bD ?_ GE167.out) | exact HB.out)⟩⟩
        case round =>
         clear H'
         try clear c1
         try clear p1
         try clear q1
         try clear hx1
         try clear c2
         try clear p2
         try clear c3
         try clear c4
         try clear c6
         try clear c6b0
         try clear c6b1
         try clear p6
         try clear c10
         try clear c13
         try clear c13b0
         try clear c13b1
         try clear c14
         try clear c16
         try clear p16
         try clear q16
         try clear hx16
         try clear p17
         try clear q17
         try clear hx17
         try clear c18
         try clear c19
         try clear c21
         try clear c21b0
         try clear c22
         try clear c22b0
         try clear c23
         try clear c23b0
         try clear c24
         try clear c24b0
         try clear c25
         try clear c25b0
         try clear c26
         try clear c26b0
         try clear c27
         try clear c27b0
         try clear c28
         try clear c30
         try clear c31
         try clear c36
         try clear hcz11_0
         try clear hcz11_1
         try clear hcz11_2
         try clear hcz11_3
         try clear hcz15_0
         try clear hcz15_1
         try clear hcz15_2
         try clear hcz15_3
         try clear hcz17_0
         try clear hcz17_1
         try clear hcz17_2
         try clear hcz17_3
         try clear hcz20_0
         try clear hcz20_1
         try clear hcz20_2
         try clear hcz20_3
         try clear hcz32_0
         try clear hcz32_1
         try clear hcz37_0
         try clear hcz37_1
         try clear hcz37_2
         try clear hcz37_3
         try clear hfz11_0
         try clear hfz11_1
         try clear hfz11_2
         try clear hfz11_3
         try clear hfz15_0
         try clear hfz15_1
         try clear hfz15_2
         try clear hfz15_3
         try clear hfz17_0
         try clear hfz17_1
         try clear hfz17_2
         try clear hfz17_3
         try clear hfz20_0
         try clear hfz20_1
         try clear hfz20_2
         try clear hfz20_3
         try clear hfz32_0
         try clear hfz32_1
         try clear hfz37_0
         try clear hfz37_1
         try clear hfz37_2
         try clear hfz37_3
         try clear hx169_0
         try clear hx169_1
         try clear hx171_0
         try clear hx172_0
         try clear p169
         try clear p171
         try clear p172
         try clear p2
         try clear q169
         try clear q171
         try clear q172
         obtain ⟨x11_3, x69_3, rfl, HA, HK3, HO_11, BK166, BK167, HB⟩ := hrel
         cases gk with
         | zero => exact absurd HA.out (by simp [sig_Call.l1])
         | succ k3 =>
          have H := HA.out
          clear HA
          simp only [sig_Call.l1] at H
          by_cases c38 : x69_3 < (l0_2.length : Int)
          ·rw [if_pos c38] at H
           have c38b0 : decide (x69_3 < (l0_2.length : Int)) = true := decide_eq_true c38
           clear c38
           by_cases c39 : 0 ≤ x69_3
           ·rw [if_pos c39] at H
            have c39b0 : decide (0 ≤ x69_3) = true := decide_eq_true c39
            clear c39
            by_cases c40 : x69_3 < (l0_2.length : Int)
            ·rw [if_pos c40] at H
             have c40b0 : decide (x69_3 < (l0_2.length : Int)) = true := decide_eq_true c40
             clear c40
             replace H := Option.bind_eq_some_iff.mp H
             obtain ⟨⟨t178, t181⟩, A410, H⟩ := H
             replace H : (if x69_3 < (l2.length : Int) then ((relate_Flow.f ((rd_T44 l2 x69_3).f0) t178 5 (wrap64 (x69_3 * 16))).bind fun bt184 => (if bt184.2 = 0 then (if x11_3.length + bt184.1.length < 3518437208883 then (sig_Call.l1 k3 l1 l2 (x11_3 ++ bt184.1) l0_2 (l0_2.length : Int) (wrap64 (x69_3 + 1)) a0_0 l0_1 l0_2 l0_3 l3_0) else (none)) else (some (([] : List (S129)), bt184.2)))) else (none)) = some (r1, r2) := H
             have A41 := Aside0.mk A410
             clear A410
             by_cases c42 : x69_3 < (l2.length : Int)
             ·rw [if_pos c42] at H
              have c42b0 : decide (x69_3 < (l2.length : Int)) = true := decide_eq_true c42
              clear c42
              replace H := Option.bind_eq_some_iff.mp H
              obtain ⟨⟨t184, t187⟩, A430, H⟩ := H
              replace H : (if t187 = 0 then (if x11_3.length + t184.length < 3518437208883 then (sig_Call.l1 k3 l1 l2 (x11_3 ++ t184) l0_2 (l0_2.length : Int) (wrap64 (x69_3 + 1)) a0_0 l0_1 l0_2 l0_3 l3_0) else (none)) else (some (([] : List (S129)), t187))) = some (r1, r2) := H
              have A43 := Aside0.mk A430
              clear A430
              by_cases c44 : t187 = 0
              ·rw [if_pos c44] at H
               have c44b0 : (t187 == 0) = true := beq_iff_eq.mpr c44
               have c44b1 : (t187 != 0) = false := bne_eq_false_iff_eq.mpr c44
               clear c44
               by_cases c45 : x11_3.length + t184.length < 3518437208883
               ·rw [if_pos c45] at H
                have LMc45 := Aside0.mk c45
                clear c45
                obtain ⟨y188, hy188⟩ : ∃ y_ : List (S129), y_ = (x11_3 ++ t184) := ⟨_, rfl⟩
                replace H : (sig_Call.l1 k3 l1 l2 y188 l0_2 (l0_2.length : Int) (wrap64 (x69_3 + 1)) a0_0 l0_1 l0_2 l0_3 l3_0) = some (r1, r2) := by first | (rw [hy188]; with_reducible exact H) | (have H2_ := (Option.bind_some _ _).symm.trans H; rw [hy188]; with_reducible exact H2_) | (have H2_ := (Option.bind_some _ _).symm.trans H; with_reducible exact H2_) | with_reducible exact H | (rw [hy188]; exact H) | exact H
                have Ny188 := Aside0.mk hy188
                clear hy188
                have H' := Aside0.mk H
                clear H
                have p176 : 0 ≤ (x69_3 : Int) := of_decide_eq_true (by first | (with_reducible assumption) | assumption)
                have q176 : x69_3 < (l0_2.length : Int) := of_decide_eq_true (by first | (with_reducible assumption) | assumption)
                obtain ⟨ad176, A176_0, c176_0, e176, hx176_0, hl176_0, hi176_0⟩ := at_T44 HR0_2.out x69_3 p176 q176
                cases e176
                replace hx176_0 := (HB.out.cell (World.block_lt_of_cell? w _ hx176_0)).trans hx176_0
                have HR176_0 := Aside0.mk hi176_0
                have HC176_0 := Aside0.mk hl176_0
                clear hi176_0 hl176_0
                replace p176 := eq_true p176
                replace q176 := eq_true q176
                try go_wp2_with (first | ((with_reducible refine bZ (N := 15) rfl ?_); (try (refine cE (by rfl) ?_; dsimp only)); refine bY ?hg (N := 15) ?hd (cs := #[.slice none 0 0]) (t := 44) ?hr ?_; (case hd => rfl); (case hg => rfl); (case hr => first | (go_simp; done) | (go_simp; rfl)); intro gb177 hg w46 hbox hb; have n0_ := Aside0.mk (Kd.cC (by (with_reducible repeat (first | apply Kd.bR | apply Kd.bQ | apply Kd.bT)); exact HO_11.out) hb); have n1_ := Aside0.mk (bL (g := gb166) (o := .cells #[.int .i64 a0_0, .slice A0_1 l0_1.length c0_1, .slice (some ad176) l0_2.length c0_2, .slice A0_3 l0_3.length c0_3] 52 (0, 0)) (by (with_reducible repeat (first | refine bF ?_ _ | refine bG ?_ | refine bE ?_ _)); exact BK166.out) hb); have n2_ := Aside0.mk (bL (g := gb167) (o := .cells #[.slice A3_0 l3_0.length c3_0] 44 (0, 0)) (by (with_reducible repeat (first | refine bF ?_ _ | refine bG ?_ | refine bE ?_ _)); exact BK167.out) hb); have n3_ := Aside0.mk (bM (by repeat (first | (with_reducible first | exact HB.out | apply bC | apply bA | apply bB | refine bD ?_ GE166.out | refine bD ?_ GE167.out) | exact HB.out)) hb); have n4_ := Aside0.mk (hbox); have n5_ := Aside0.mk ((by rw [hg]; exact (bK (by repeat (first | (with_reducible first | exact HB.out | apply bC | apply bA | apply bB | refine bD ?_ GE166.out | refine bD ?_ GE167.out) | exact HB.out))) : w.heap.size ≤ gb177)); have n6_ := Aside0.mk ((by rw [hg]; exact (bK (by repeat (first | (with_reducible first | exact HB.out | apply bC | apply bA | apply bB | refine bD ?_ GE166.out | refine bD ?_ GE167.out) | exact HB.out))) : w.heap.size ≤ gb177)); have n7_ := Aside0.mk ((by rw [hg]; exact Nat.ne_of_lt (cD (g := gb166) (o := .cells #[.int .i64 a0_0, .slice A0_1 l0_1.length c0_1, .slice (some ad176) l0_2.length c0_2, .slice A0_3 l0_3.length c0_3] 52 (0, 0)) (by (with_reducible repeat (first | refine bF ?_ _ | refine bG ?_ | refine bE ?_ _)); exact BK166.out)) : gb166 ≠ gb177)); have n8_ := Aside0.mk ((by rw [hg]; exact Nat.ne_of_gt (cD (g := gb166) (o := .cells #[.int .i64 a0_0, .slice A0_1 l0_1.length c0_1, .slice (some ad176) l0_2.length c0_2, .slice A0_3 l0_3.length c0_3] 52 (0, 0)) (by (with_reducible repeat (first | refine bF ?_ _ | refine bG ?_ | refine bE ?_ _)); exact BK166.out)) : gb177 ≠ gb166)); have n9_ := Aside0.mk ((by rw [hg]; exact Nat.ne_of_lt (cD (g := gb167) (o := .cells #[.slice A3_0 l3_0.length c3_0] 44 (0, 0)) (by (with_reducible repeat (first | refine bF ?_ _ | refine bG ?_ | refine bE ?_ _)); exact BK167.out)) : gb167 ≠ gb177)); have n10_ := Aside0.mk ((by rw [hg]; exact Nat.ne_of_gt (cD (g := gb167) (o := .cells #[.slice A3_0 l3_0.length c3_0] 44 (0, 0)) (by (with_reducible repeat (first | refine bF ?_ _ | refine bG ?_ | refine bE ?_ _)); exact BK167.out)) : gb177 ≠ gb167)); clear HO_11; clear BK166; clear BK167; clear HB; have HO_11 := n0_; have BK166 := n1_; have BK167 := n2_; have HB := n3_; have BK177 := n4_; have GW177 := n5_; have GE177 := n6_; have NB166_177 := n7_; have NB177_166 := n8_; have NB167_177 := n9_; have NB177_167 := n10_; clear n0_ n1_ n2_ n3_ n4_ n5_ n6_ n7_ n8_ n9_ n10_; clear hb hbox hg; have hnb47 := NB177_166.out; have hnc47 := NB166_177.out; have hnb48 := NB177_167.out; have hnc48 := NB167_177.out; have hcz49_0 : w46.cell? ⟨gb177, 0, none⟩ = some (.slice none 0 0) := (bH BK177.out 0).trans rfl; have hfz49_0 := bJ BK177.out 0) | ((with_reducible refine cB (f := 91) rfl ?_); refine goesL_ (some 77) rfl rfl Try.func91 (by kernel_rfl) rfl #[.agg #[.slice A176_0 ((rd_T44 l0_2 x69_3).f0).length c176_0], .slice A1 l1.length c1] rfl (by (try simp only [List.map_toArray, List.map_cons, List.map_nil]); first | done | rfl | (simp only [List.length_drop, List.length_take]; rfl)) ?_; (with_reducible refine (row_Subst.calls _ _ ((rd_T44 l0_2 x69_3).f0) _ _ l1 t178 t181 _ ?side1 ?side2 ?side3 ?side4 A41.out).mono ?_); (case side1 => exact Kd.bW HR176_0.out (by repeat (first | (with_reducible first | exact HB.out | apply bC | apply bA | apply bB | refine bD ?_ GE166.out | refine bD ?_ GE167.out | refine bD ?_ GE177.out) | exact HB.out))); (case side2 => exact HC176_0.out); (case side3 => exact Kd.bW HR1.out (by repeat (first | (with_reducible first | exact HB.out | apply bC | apply bA | apply bB | refine bD ?_ GE166.out | refine bD ?_ GE167.out | refine bD ?_ GE177.out) | exact HB.out))); (case side4 => exact HC1.out); rintro e w50 ⟨v179, rfl, ho0, hb⟩; refine ⟨_, rfl, ?_⟩; have n0_ := Aside0.mk (Kd.cC (by (with_reducible repeat (first | apply Kd.bR | apply Kd.bQ | apply Kd.bT)); exact (Kd.R_mono (Kd.R_far (p := ⟨gb177, 0, none⟩) (Kd.R_types HO_11.out BK177.out (by decide)) (fun _ hk => hk.2) (.slice A176_0 ((rd_T44 l0_2 x69_3).f0).length c176_0)) (fun _ h_ => h_.1))) hb); have n1_ := Aside0.mk (Kd.R_lower ho0 (bK (by repeat (first | (with_reducible first | exact HB.out | apply bC | apply bA | apply bB | refine bD ?_ GE166.out | refine bD ?_ GE167.out | refine bD ?_ GE177.out) | exact HB.out)))); have n2_ := Aside0.mk (bL (g := gb166) (o := .cells #[.int .i64 a0_0, .slice A0_1 l0_1.length c0_1, .slice (some ad176) l0_2.length c0_2, .slice A0_3 l0_3.length c0_3] 52 (0, 0)) (by (with_reducible repeat (first | refine bF ?_ _ | refine bG ?_ | refine bE ?_ _)); refine blk_far ?_ NB166_177.out _; (with_reducible repeat (first | refine bF ?_ _ | refine bG ?_ | refine bE ?_ _)); exact BK166.out) hb); have n3_ := Aside0.mk (bL (g := gb167) (o := .cells #[.slice A3_0 l3_0.length c3_0] 44 (0, 0)) (by (with_reducible repeat (first | refine bF ?_ _ | refine bG ?_ | refine bE ?_ _)); refine blk_far ?_ NB167_177.out _; (with_reducible repeat (first | refine bF ?_ _ | refine bG ?_ | refine bE ?_ _)); exact BK167.out) hb); have n4_ := Aside0.mk (bL (g := gb177) (o := .cells #[.slice A176_0 ((rd_T44 l0_2 x69_3).f0).length c176_0] 44 (0, 0)) (by (with_reducible repeat (first | refine bF ?_ _ | refine bG ?_ | refine bE ?_ _)); refine blk_put (cs := #[.slice none 0 0]) ?_ 0 _ rfl; (with_reducible repeat (first | refine bF ?_ _ | refine bG ?_ | refine bE ?_ _)); exact BK177.out) hb); have n5_ := Aside0.mk (bM (by repeat (first | (with_reducible first | exact HB.out | apply bC | apply bA | apply bB | refine bD ?_ GE166.out | refine bD ?_ GE167.out | refine bD ?_ GE177.out) | exact HB.out)) hb); clear HO_11; clear BK166; clear BK167; clear BK177; clear HB; have HO_11 := n0_; have HO180 := n1_; have BK166 := n2_; have BK167 := n3_; have BK177 := n4_; have HB := n5_; clear n0_ n1_ n2_ n3_ n4_ n5_; (try clear hb); (try clear hb2); (try clear hk); (try clear hi); (try clear ho0)) | ((with_reducible refine bZ (N := 16) rfl ?_); (try (refine cE (by rfl) ?_; dsimp only)); refine bY ?hg (N := 16) ?hd (cs := #[.slice none 0 0]) (t := 44) ?hr ?_; (case hd => rfl); (case hg => rfl); (case hr => first | (go_simp; done) | (go_simp; rfl)); intro gb182 hg w51 hbox hb; have n0_ := Aside0.mk (Kd.cC (by (with_reducible repeat (first | apply Kd.bR | apply Kd.bQ | apply Kd.bT)); exact HO_11.out) hb); have n1_ := Aside0.mk (Kd.cC (by (with_reducible repeat (first | apply Kd.bR | apply Kd.bQ | apply Kd.bT)); exact HO180.out) hb); have n2_ := Aside0.mk (bL (g := gb166) (o := .cells #[.int .i64 a0_0, .slice A0_1 l0_1.length c0_1, .slice (some ad176) l0_2.length c0_2, .slice A0_3 l0_3.length c0_3] 52 (0, 0)) (by (with_reducible repeat (first | refine bF ?_ _ | refine bG ?_ | refine bE ?_ _)); exact BK166.out) hb); have n3_ := Aside0.mk (bL (g := gb167) (o := .cells #[.slice A3_0 l3_0.length c3_0] 44 (0, 0)) (by (with_reducible repeat (first | refine bF ?_ _ | refine bG ?_ | refine bE ?_ _)); exact BK167.out) hb); have n4_ := Aside0.mk (bL (g := gb177) (o := .cells #[.slice A176_0 ((rd_T44 l0_2 x69_3).f0).length c176_0] 44 (0, 0)) (by (with_reducible repeat (first | refine bF ?_ _ | refine bG ?_ | refine bE ?_ _)); exact BK177.out) hb); have n5_ := Aside0.mk (bM (by repeat (first | (with_reducible first | exact HB.out | apply bC | apply bA | apply bB | refine bD ?_ GE166.out | refine bD ?_ GE167.out | refine bD ?_ GE177.out) | exact HB.out)) hb); have n6_ := Aside0.mk (hbox); have n7_ := Aside0.mk ((by rw [hg]; exact (bK (by repeat (first | (with_reducible first | exact HB.out | apply bC | apply bA | apply bB | refine bD ?_ GE166.out | refine bD ?_ GE167.out | refine bD ?_ GE177.out) | exact HB.out))) : w.heap.size ≤ gb182)); have n8_ := Aside0.mk ((by rw [hg]; exact (bK (by repeat (first | (with_reducible first | exact HB.out | apply bC | apply bA | apply bB | refine bD ?_ GE166.out | refine bD ?_ GE167.out | refine bD ?_ GE177.out) | exact HB.out))) : w.heap.size ≤ gb182)); have n9_ := Aside0.mk ((by rw [hg]; exact Nat.ne_of_lt (cD (g := gb166) (o := .cells #[.int .i64 a0_0, .slice A0_1 l0_1.length c0_1, .slice (some ad176) l0_2.length c0_2, .slice A0_3 l0_3.length c0_3] 52 (0, 0)) (by (with_reducible repeat (first | refine bF ?_ _ | refine bG ?_ | refine bE ?_ _)); exact BK166.out)) : gb166 ≠ gb182)); have n10_ := Aside0.mk ((by rw [hg]; exact Nat.ne_of_gt (cD (g := gb166) (o := .cells #[.int .i64 a0_0, .slice A0_1 l0_1.length c0_1, .slice (some ad176) l0_2.length c0_2, .slice A0_3 l0_3.length c0_3] 52 (0, 0)) (by (with_reducible repeat (first | refine bF ?_ _ | refine bG ?_ | refine bE ?_ _)); exact BK166.out)) : gb182 ≠ gb166)); have n11_ := Aside0.mk ((by rw [hg]; exact Nat.ne_of_lt (cD (g := gb167) (o := .cells #[.slice A3_0 l3_0.length c3_0] 44 (0, 0)) (by (with_reducible repeat (first | refine bF ?_ _ | refine bG ?_ | refine bE ?_ _)); exact BK167.out)) : gb167 ≠ gb182)); have n12_ := Aside0.mk ((by rw [hg]; exact Nat.ne_of_gt (cD (g := gb167) (o := .cells #[.slice A3_0 l3_0.length c3_0] 44 (0, 0)) (by (with_reducible repeat (first | refine bF ?_ _ | refine bG ?_ | refine bE ?_ _)); exact BK167.out)) : gb182 ≠ gb167)); have n13_ := Aside0.mk ((by rw [hg]; exact Nat.ne_of_lt (cD (g := gb177) (o := .cells #[.slice A176_0 ((rd_T44 l0_2 x69_3).f0).length c176_0] 44 (0, 0)) (by (with_reducible repeat (first | refine bF ?_ _ | refine bG ?_ | refine bE ?_ _)); exact BK177.out)) : gb177 ≠ gb182)); have n14_ := Aside0.mk ((by rw [hg]; exact Nat.ne_of_gt (cD (g := gb177) (o := .cells #[.slice A176_0 ((rd_T44 l0_2 x69_3).f0).length c176_0] 44 (0, 0)) (by (with_reducible repeat (first | refine bF ?_ _ | refine bG ?_ | refine bE ?_ _)); exact BK177.out)) : gb182 ≠ gb177)); clear HO_11; clear HO180; clear BK166; clear BK167; clear BK177; clear HB; have HO_11 := n0_; have HO180 := n1_; have BK166 := n2_; have BK167 := n3_; have BK177 := n4_; have HB := n5_; have BK182 := n6_; have GW182 := n7_; have GE182 := n8_; have NB166_182 := n9_; have NB182_166 := n10_; have NB167_182 := n11_; have NB182_167 := n12_; have NB177_182 := n13_; have NB182_177 := n14_; clear n0_ n1_ n2_ n3_ n4_ n5_ n6_ n7_ n8_ n9_ n10_ n11_ n12_ n13_ n14_; clear hb hbox hg; obtain ⟨Ao52, co52, eo52⟩ := Kd.R_slice HO180.out; subst eo52; have hnb53 := NB182_166.out; have hnc53 := NB166_182.out; have hnb54 := NB182_167.out; have hnc54 := NB167_182.out; have hnb55 := NB182_177.out; have hnc55 := NB177_182.out; have hcz56_0 : w51.cell? ⟨gb182, 0, none⟩ = some (.slice none 0 0) := (bH BK182.out 0).trans rfl; have hfz56_0 := bJ BK182.out 0))
                have n0_ : Aside0 (Kd.R k129 129 (w51.setCell ⟨gb182, 0, none⟩ (.slice Ao52 t178.length co52)) w.heap.size (fun _ => True) u11 x11_3) := ⟨by (with_reducible repeat (first | apply Kd.bR | apply Kd.bQ | apply Kd.bT)); exact Kd.R_mono (Kd.R_far (p := ⟨gb182, 0, none⟩) (Kd.R_types HO_11.out BK182.out (by decide)) (fun _ hk => hk.2) (.slice Ao52 t178.length co52)) (fun _ hk => trivial)⟩
                have n1_ : Aside0 (Kd.R k115 115 (w51.setCell ⟨gb182, 0, none⟩ (.slice Ao52 t178.length co52)) w.heap.size (fun _ => True) (.slice Ao52 t178.length co52) t178) := ⟨by (with_reducible repeat (first | apply Kd.bR | apply Kd.bQ | apply Kd.bT)); exact Kd.R_mono (Kd.R_far (p := ⟨gb182, 0, none⟩) (Kd.R_types HO180.out BK182.out (by decide)) (fun _ hk => hk.2) (.slice Ao52 t178.length co52)) (fun _ hk => trivial)⟩
                have n2_ : Aside0 ((w51.setCell ⟨gb182, 0, none⟩ (.slice Ao52 t178.length co52)).heap[gb166]? = some (.cells #[.int .i64 a0_0, .slice A0_1 l0_1.length c0_1, .slice (some ad176) l0_2.length c0_2, .slice A0_3 l0_3.length c0_3] 52 (0, 0))) := ⟨by (with_reducible repeat (first | refine bF ?_ _ | refine bG ?_ | refine bE ?_ _)); refine blk_far ?_ NB166_182.out _; (with_reducible repeat (first | refine bF ?_ _ | refine bG ?_ | refine bE ?_ _)); exact BK166.out⟩
                have n3_ : Aside0 ((w51.setCell ⟨gb182, 0, none⟩ (.slice Ao52 t178.length co52)).heap[gb167]? = some (.cells #[.slice A3_0 l3_0.length c3_0] 44 (0, 0))) := ⟨by (with_reducible repeat (first | refine bF ?_ _ | refine bG ?_ | refine bE ?_ _)); refine blk_far ?_ NB167_182.out _; (with_reducible repeat (first | refine bF ?_ _ | refine bG ?_ | refine bE ?_ _)); exact BK167.out⟩
                have n4_ : Aside0 ((w51.setCell ⟨gb182, 0, none⟩ (.slice Ao52 t178.length co52)).heap[gb177]? = some (.cells #[.slice A176_0 ((rd_T44 l0_2 x69_3).f0).length c176_0] 44 (0, 0))) := ⟨by (with_reducible repeat (first | refine bF ?_ _ | refine bG ?_ | refine bE ?_ _)); refine blk_far ?_ NB177_182.out _; (with_reducible repeat (first | refine bF ?_ _ | refine bG ?_ | refine bE ?_ _)); exact BK177.out⟩
                have n5_ : Aside0 ((w51.setCell ⟨gb182, 0, none⟩ (.slice Ao52 t178.length co52)).heap[gb182]? = some (.cells #[.slice Ao52 t178.length co52] 44 (0, 0))) := ⟨by (with_reducible repeat (first | refine bF ?_ _ | refine bG ?_ | refine bE ?_ _)); refine blk_put (cs := #[.slice none 0 0]) ?_ 0 _ rfl; (with_reducible repeat (first | refine bF ?_ _ | refine bG ?_ | refine bE ?_ _)); exact BK182.out⟩
                have n6_ : Aside0 (Below w.heap.size w (w51.setCell ⟨gb182, 0, none⟩ (.slice Ao52 t178.length co52))) := ⟨by repeat (first | (with_reducible first | exact HB.out | apply bC | apply bA | apply bB | refine bD ?_ GE166.out | refine bD ?_ GE167.out | refine bD ?_ GE177.out | refine bD ?_ GE182.out) | exact HB.out)⟩
                (try clear HO_11)
                (try clear HO180)
                (try clear BK166)
                (try clear BK167)
                (try clear BK177)
                (try clear BK182)
                (try clear HB)
                generalize (w51.setCell ⟨gb182, 0, none⟩ (.slice Ao52 t178.length co52)) = w57 at n0_ n1_ n2_ n3_ n4_ n5_ n6_ ⊢
                have HO_11 := n0_
                have HO180 := n1_
                have BK166 := n2_
                have BK167 := n3_
                have BK177 := n4_
                have BK182 := n5_
                have HB := n6_
                clear n0_ n1_ n2_ n3_ n4_ n5_ n6_
                have n0_ := Aside0.mk (Kd.bT HO_11.out)
                have n1_ := Aside0.mk (Kd.bT HO180.out)
                have n2_ := Aside0.mk (bG BK166.out)
                have n3_ := Aside0.mk (bG BK167.out)
                have n4_ := Aside0.mk (bG BK177.out)
                have n5_ := Aside0.mk (bG BK182.out)
                have n6_ := Aside0.mk (bB HB.out)
                clear HO_11
                clear HO180
                clear BK166
                clear BK167
                clear BK177
                clear BK182
                clear HB
                have HO_11 := n0_
                have HO180 := n1_
                have BK166 := n2_
                have BK167 := n3_
                have BK177 := n4_
                have BK182 := n5_
                have HB := n6_
                clear n0_ n1_ n2_ n3_ n4_ n5_ n6_
                have p183 : 0 ≤ (x69_3 : Int) := of_decide_eq_true (by first | (with_reducible assumption) | assumption)
                have q183 : x69_3 < (l2.length : Int) := of_decide_eq_true (by first | (with_reducible assumption) | assumption)
                obtain ⟨ad183, A183_0, c183_0, e183, hx183_0, hl183_0, hi183_0⟩ := at_T44 HR2.out x69_3 p183 q183
                have hw183_0 := hx183_0
                cases e183
                replace hx183_0 := (HB.out.cell (World.block_lt_of_cell? w _ hx183_0)).trans hx183_0
                have HR183_0 := Aside0.mk hi183_0
                have HC183_0 := Aside0.mk hl183_0
                clear hi183_0 hl183_0
                replace p183 := eq_true p183
                replace q183 := eq_true q183
                refine start_ (n := 13) (S := fun w' => w'.cell? ⟨gb182, 0, none⟩ = some (.slice Ao52 t178.length co52) ∧ w'.cell? (ad183.add (x69_3).toNat) = some (.slice A183_0 ((rd_T44 l2 x69_3).f0).length c183_0)) (ds := []) #[false, false, false, false, false, false, false, false, false, false, false, false, false] (by kernel_rfl) rfl rfl ⟨(bH BK182.out 0).trans rfl, ((HB.out.cell (World.block_lt_of_cell? w _ hw183_0)).trans hw183_0)⟩ (fun hHeld => ?_); refine with_tabW sig_Call.tab16 sig_Call.bits16 (fun HT_ HW_ => ?_)
                generalize w57.drew = w58 at HO_11 HO180 BK166 BK167 BK177 BK182 HB HR183_0 hx183_0 hHeld ⊢
                refine bX (i := 0) (N := some 81) (v := ?_) (a' := ?_) #[true, false, false, false, false, false, false, false, false, false, false, false, false] rfl rfl (bS HT_.out (by kernel_rfl)) (fun _ _ _ h => h) (Or.inl ⟨by rfl, ?_⟩) ?_ ?_
                rotate_left
                ·intro w'
                 go_simp
                 with_reducible rfl
                rotate_left
                ·simp only [Act.put, sZ1, sZ2, sZ3, bN, bP]
                 rfl
                refine bX (i := 1) (N := some 82) (v := ?_) (a' := ?_) #[true, true, false, false, false, false, false, false, false, false, false, false, false] rfl rfl (bS HT_.out (by kernel_rfl)) (fun _ _ _ h => h) (Or.inl ⟨by rfl, ?_⟩) ?_ ?_
                rotate_left
                ·intro w'
                 go_simp
                 with_reducible rfl
                rotate_left
                ·simp only [Act.put, sZ1, sZ2, sZ3, bN, bP]
                 rfl
                refine bX (i := 2) (N := some 83) (v := ?_) (a' := ?_) #[true, true, true, false, false, false, false, false, false, false, false, false, false] rfl rfl (bS HT_.out (by kernel_rfl)) (fun _ _ _ h => h) (Or.inl ⟨by rfl, ?_⟩) ?_ ?_
                rotate_left
                ·intro w'
                 go_simp
                 with_reducible rfl
                rotate_left
                ·simp only [Act.put, sZ1, sZ2, sZ3, bN, bP]
                 rfl
                refine bX (i := 5) (N := some 86) (v := ?_) (a' := ?_) #[true, true, true, false, false, true, false, false, false, false, false, false, false] rfl rfl (bS HT_.out (by kernel_rfl)) (fun _ _ _ h => h) (Or.inl ⟨by rfl, ?_⟩) ?_ ?_
                rotate_left
                ·intro w'
                 go_simp
                 with_reducible rfl
                rotate_left
                ·simp only [Act.put, sZ1, sZ2, sZ3, bN, bP]
                 rfl
                refine bX (i := 6) (N := some 87) (v := ?_) (a' := ?_) #[true, true, true, false, false, true, true, false, false, false, false, false, false] rfl rfl (bS HT_.out (by kernel_rfl)) (fun _ _ _ h => h) (Or.inl ⟨by rfl, ?_⟩) ?_ ?_
                rotate_left
                ·intro w'
                 go_simp
                 with_reducible rfl
                rotate_left
                ·simp only [Act.put, sZ1, sZ2, sZ3, bN, bP]
                 rfl
                refine take_ (i := 3) (N := some 84) (v := ?_) (a' := ?_) #[true, true, true, true, false, true, true, false, false, false, false, false, false] rfl rfl (take_ofW HT_.out HW_.out (by kernel_rfl)) (fun _ _ _ h => h) (Or.inl ⟨by rfl, ?_⟩) hHeld ?_ ?_
                rotate_left
                ·rintro w' ⟨s0, s1⟩
                 go_simp
                 with_reducible rfl
                rotate_left
                ·simp only [Act.put, sZ1, sZ2, sZ3, bN, bP]
                 rfl
                refine take_ (i := 4) (N := some 85) (v := ?_) (a' := ?_) #[true, true, true, true, true, true, true, false, false, false, false, false, false] rfl rfl (take_ofW HT_.out HW_.out (by kernel_rfl)) (fun _ _ _ h => h) (Or.inl ⟨by rfl, ?_⟩) hHeld ?_ ?_
                rotate_left
                ·rintro w' ⟨s0, s1⟩
                 go_simp
                 with_reducible rfl
                rotate_left
                ·simp only [Act.put, sZ1, sZ2, sZ3, bN, bP]
                 rfl
                refine one_ (i := 7) (N := some 88) #[true, true, true, true, true, true, true, true, false, false, false, false, false] rfl rfl (one_of HT_.out (by kernel_rfl)) (by decide) (fun K hK => ?_)
                refine goes_ Try.func92 (by kernel_rfl) rfl #[.agg #[.slice A183_0 ((rd_T44 l2 x69_3).f0).length c183_0], .agg #[.slice Ao52 t178.length co52], .int .i64 5, .int .i64 (wrap64 (x69_3 * 16))] (by rfl) rfl rfl (by (try simp only [List.map_toArray, List.map_cons, List.map_nil]); first | done | rfl | (simp only [List.length_drop, List.length_take]; rfl)) ?_
                with_reducible refine (relate_Flow.calls _ _ ((rd_T44 l2 x69_3).f0) _ _ t178 5 (wrap64 (x69_3 * 16)) t184 t187 _ ?side1 ?side2 ?side3 ?side4 A43.out).mono ?_
                (case side1 => repeat (first | exact (Kd.bW HR183_0.out HB.out) | (with_reducible refine Kd.bV ?_ _) | (with_reducible refine Kd.bU ?_ _) | (with_reducible refine Kd.cA ?_)))
                (case side2 => exact HC183_0.out)
                (case side3 => repeat (first | exact (Kd.cF HO180.out).2.2 | (with_reducible refine Kd.bV ?_ _) | (with_reducible refine Kd.bU ?_ _) | (with_reducible refine Kd.cA ?_)))
                (case side4 => exact (Kd.cF HO180.out).2.1)
                rintro e w59 ⟨v185, rfl, ho0, hb⟩
                refine ⟨_, rfl, ?_⟩
                have n0_ := Aside0.mk (Kd.R_elder' (by (with_reducible repeat (first | apply Kd.bR | apply Kd.bQ | apply Kd.bT)); exact HO_11.out) (Kd.R_base ho0) hb)
                have n1_ := Aside0.mk (Kd.cC (by (with_reducible repeat (first | apply Kd.bR | apply Kd.bQ | apply Kd.bT)); exact HO180.out) hb)
                have n2_ := Aside0.mk (Kd.R_lower (Kd.R_new' ho0 (Kd.R_lt (by (with_reducible repeat (first | apply Kd.bR | apply Kd.bQ | apply Kd.bT)); exact HO_11.out))) (bK (by repeat (first | (with_reducible first | exact HB.out | apply bC | apply bA | apply bB | refine bD ?_ GE166.out | refine bD ?_ GE167.out | refine bD ?_ GE177.out | refine bD ?_ GE182.out) | exact HB.out))))
                have n3_ := Aside0.mk (bL (g := gb166) (o := .cells #[.int .i64 a0_0, .slice A0_1 l0_1.length c0_1, .slice (some ad176) l0_2.length c0_2, .slice A0_3 l0_3.length c0_3] 52 (0, 0)) (by (with_reducible repeat (first | refine bF ?_ _ | refine bG ?_ | refine bE ?_ _)); exact BK166.out) hb)
                have n4_ := Aside0.mk (bL (g := gb167) (o := .cells #[.slice A3_0 l3_0.length c3_0] 44 (0, 0)) (by (with_reducible repeat (first | refine bF ?_ _ | refine bG ?_ | refine bE ?_ _)); exact BK167.out) hb)
                have n5_ := Aside0.mk (bL (g := gb177) (o := .cells #[.slice A176_0 ((rd_T44 l0_2 x69_3).f0).length c176_0] 44 (0, 0)) (by (with_reducible repeat (first | refine bF ?_ _ | refine bG ?_ | refine bE ?_ _)); exact BK177.out) hb)
                have n6_ := Aside0.mk (bL (g := gb182) (o := .cells #[.slice Ao52 t178.length co52] 44 (0, 0)) (by (with_reducible repeat (first | refine bF ?_ _ | refine bG ?_ | refine bE ?_ _)); exact BK182.out) hb)
                have n7_ := Aside0.mk (bM (by repeat (first | (with_reducible first | exact HB.out | apply bC | apply bA | apply bB | refine bD ?_ GE166.out | refine bD ?_ GE167.out | refine bD ?_ GE177.out | refine bD ?_ GE182.out) | exact HB.out)) hb)
                clear HO_11
                clear HO180
                clear BK166
                clear BK167
                clear BK177
                clear BK182
                clear HB
                have HO_11 := n0_
                have HO180 := n1_
                have HO186 := n2_
                have BK166 := n3_
                have BK167 := n4_
                have BK177 := n5_
                have BK182 := n6_
                have HB := n7_
                clear n0_ n1_ n2_ n3_ n4_ n5_ n6_ n7_
                (try clear hb)
                (try clear hb2)
                (try clear hk)
                (try clear hi)
                (try clear ho0)
                refine hK.out _ _ ⟨(bH BK182.out 0).trans rfl, ((HB.out.cell (World.block_lt_of_cell? w _ hw183_0)).trans hw183_0)⟩ (fun hHeld => ?_)
                clear hK K
                refine norm_ (a' := ?_) ?_ ?_
                rotate_left
                ·show Act.put _ (some 88) _ = _
                 simp only [Act.put, sZ1, sZ2, sZ3, bN, bP]
                 rfl
                refine bX (i := 8) (N := some 80) (v := ?_) (a' := ?_) #[true, true, true, true, true, true, true, true, true, false, false, false, false] rfl rfl (bS HT_.out (by kernel_rfl)) (fun _ _ _ h => h) (Or.inl ⟨by rfl, ?_⟩) ?_ ?_
                rotate_left
                ·intro w'
                 go_simp
                 with_reducible rfl
                rotate_left
                ·simp only [Act.put, sZ1, sZ2, sZ3, bN, bP]
                 rfl
                refine bX (i := 9) (N := some 89) (v := ?_) (a' := ?_) #[true, true, true, true, true, true, true, true, true, true, false, false, false] rfl rfl (bS HT_.out (by kernel_rfl)) (fun _ _ _ h => h) (Or.inl ⟨by rfl, ?_⟩) ?_ ?_
                rotate_left
                ·intro w'
                 go_simp
                 with_reducible rfl
                rotate_left
                ·simp only [Act.put, sZ1, sZ2, sZ3, bN, bP]
                 rfl
                refine bX (i := 10) (N := some 90) (v := ?_) (a' := ?_) #[true, true, true, true, true, true, true, true, true, true, true, false, false] rfl rfl (bS HT_.out (by kernel_rfl)) (fun _ _ _ h => h) (Or.inl ⟨by rfl, ?_⟩) ?_ ?_
                rotate_left
                ·intro w'
                 go_simp
                 with_reducible rfl
                rotate_left
                ·simp only [Act.put, sZ1, sZ2, sZ3, bN, bP]
                 rfl
                refine bX (i := 11) (N := some 18) (v := ?_) (a' := ?_) #[true, true, true, true, true, true, true, true, true, true, true, true, false] rfl rfl (bS HT_.out (by kernel_rfl)) (fun _ _ _ h => h) (Or.inl ⟨by rfl, ?_⟩) ?_ ?_
                rotate_left
                ·intro w'
                 go_simp
                 with_reducible rfl
                rotate_left
                ·simp only [Act.put, sZ1, sZ2, sZ3, bN, bP]
                 rfl
                refine bX (i := 12) (N := some 19) (v := ?_) (a' := ?_) #[true, true, true, true, true, true, true, true, true, true, true, true, true] rfl rfl (bS HT_.out (by kernel_rfl)) (fun _ _ _ h => h) (Or.inl ⟨by rfl, ?_⟩) ?_ ?_
                rotate_left
                ·intro w'
                 go_simp
                 with_reducible rfl
                rotate_left
                ·simp only [Act.put, sZ1, sZ2, sZ3, bN, bP]
                 rfl
                refine done_ (done_of HT_.out (by kernel_rfl)) ?_
                obtain ⟨Ao61, co61, eo61⟩ := Kd.R_slice HO186.out
                subst eo61
                try go_wp2_with (first | ((with_reducible refine gate_builtin (b := .append) (xs := #[.tmp 94, .tmp 95]) rfl ?_); (try (refine cE (by rfl) ?_; dsimp only)); at_builtin; refine Kd.R_append_rows k129 (w0 := w) w.heap.size rfl (.tmp 94) (.tmp 95) 60 129 (.agg #[(.int .i64 0), (.int .i64 0), (.int .i64 0), (.int .i64 0), (.bool false)]) 40 rfl Try.underlying60 info129 rfl (by decide) (by omega) u11 x11_3 t184 _ _ _ (fun k_ => some k_ ≠ (.slice Ao61 t184.length co61 : Value).ownBlock) (fun _ => False) rfl rfl ?aO ?aR (fun _ _ h => h) (fun _ h => h.elim) ?aF ?aB ?aS ?aL ?_; (case aR => repeat (first | exact (Kd.cF HO186.out).2.2 | (with_reducible refine Kd.bV ?_ _) | (with_reducible refine Kd.bU ?_ _) | (with_reducible refine Kd.cA ?_))); (case aB => exact (by repeat (first | (with_reducible first | exact HB.out | apply bC | apply bA | apply bB | refine bD ?_ GE166.out | refine bD ?_ GE167.out | refine bD ?_ GE177.out | refine bD ?_ GE182.out) | exact HB.out))); (case aF => exact (fun k_ hk => Kd.fresh' (Kd.R_lt (by (with_reducible repeat (first | apply Kd.bR | apply Kd.bQ | apply Kd.bT)); exact HO186.out)) k_ hk)); (case aO => exact (by (with_reducible repeat (first | apply Kd.bR | apply Kd.bQ | apply Kd.bT)); exact Kd.R_mono HO_11.out (fun _ hk => hk.2))); (case aS => exact (bK (by repeat (first | (with_reducible first | exact HB.out | apply bC | apply bA | apply bB | refine bD ?_ GE166.out | refine bD ?_ GE167.out | refine bD ?_ GE177.out | refine bD ?_ GE182.out) | exact HB.out)))); (case aL => have := LMc45.out; omega); intro v189 w60 ho hb hg hat; rw [← Ny188.out] at ho; have n0_ := Aside0.mk (blk_grown (g := gb166) (o := .cells #[.int .i64 a0_0, .slice A0_1 l0_1.length c0_1, .slice (some ad176) l0_2.length c0_2, .slice A0_3 l0_3.length c0_3] 52 (0, 0)) (by (with_reducible repeat (first | refine bF ?_ _ | refine bG ?_ | refine bE ?_ _)); exact BK166.out) hg (Kd.R_ne HO_11.out BK166.out (by decide))); have n1_ := Aside0.mk (blk_grown (g := gb167) (o := .cells #[.slice A3_0 l3_0.length c3_0] 44 (0, 0)) (by (with_reducible repeat (first | refine bF ?_ _ | refine bG ?_ | refine bE ?_ _)); exact BK167.out) hg (Kd.R_ne HO_11.out BK167.out (by decide))); have n2_ := Aside0.mk (blk_grown (g := gb177) (o := .cells #[.slice A176_0 ((rd_T44 l0_2 x69_3).f0).length c176_0] 44 (0, 0)) (by (with_reducible repeat (first | refine bF ?_ _ | refine bG ?_ | refine bE ?_ _)); exact BK177.out) hg (Kd.R_ne HO_11.out BK177.out (by decide))); have n3_ := Aside0.mk (Kd.R_over' (by (with_reducible repeat (first | apply Kd.bR | apply Kd.bQ | apply Kd.bT)); exact HO180.out) (Kd.R_typed (by (with_reducible repeat (first | apply Kd.bR | apply Kd.bQ | apply Kd.bT)); exact HO_11.out)) (by decide) hg); have n4_ := Aside0.mk (blk_grown (g := gb182) (o := .cells #[.slice Ao52 t178.length co52] 44 (0, 0)) (by (with_reducible repeat (first | refine bF ?_ _ | refine bG ?_ | refine bE ?_ _)); exact BK182.out) hg (Kd.R_ne HO_11.out BK182.out (by decide))); have n5_ := Aside0.mk (Kd.R_after (ok := (fun _ => True)) (by (with_reducible repeat (first | apply Kd.bR | apply Kd.bQ | apply Kd.bT)); exact HO186.out) hg hat); have n6_ := Aside0.mk (hb); have n7_ := Aside0.mk (ho); clear BK166; clear BK167; clear BK177; clear HO180; clear BK182; clear HO186; clear HB; clear HO_11; have BK166 := n0_; have BK167 := n1_; have BK177 := n2_; have HO180 := n3_; have BK182 := n4_; have HO186 := n5_; have HB := n6_; have HO190 := n7_; clear n0_ n1_ n2_ n3_ n4_ n5_ n6_ n7_; clear ho hb hg hat))
                go_roundg k3
                case measure => have := HJ6.out; have := HK2.out; have := HK3.out; omega
                case rel => exact ⟨(y188), (wrap64 (x69_3 + 1)), (by first | rfl | (simp; done) | (simp [*]; done)), H', ⟨by have := HJ6.out; have := HK2.out; have := HK3.out; omega⟩, ⟨by (with_reducible repeat (first | apply Kd.bR | apply Kd.bQ | apply Kd.bT)); exact Kd.R_mono HO190.out (fun _ hk => trivial)⟩, ⟨by (with_reducible repeat (first | refine bF ?_ _ | refine bG ?_ | refine bE ?_ _)); exact BK166.out⟩, ⟨by (with_reducible repeat (first | refine bF ?_ _ | refine bG ?_ | refine bE ?_ _)); exact BK167.out⟩, ⟨by repeat (first | (with_reducible first | exact HB.out | apply bC | apply bA | apply bB | refine bD ?_ GE166.out | refine bD ?_ GE167.out | refine bD ?_ GE177.out | refine bD ?_ GE182.out) | exact HB.out)⟩⟩
               ·rw [if_neg c45] at H
                exact absurd H (by simp)
              ·rw [if_neg c44] at H
               have c44b0 : (t187 == 0) = false := beq_eq_false_iff_ne.mpr c44
               have c44b1 : (t187 != 0) = true := bne_iff_ne.mpr c44
               simp only [Option.some.injEq, Prod.mk.injEq] at H
               obtain ⟨rfl, rfl⟩ := H
               have p176 : 0 ≤ (x69_3 : Int) := of_decide_eq_true (by first | (with_reducible assumption) | assumption)
               have q176 : x69_3 < (l0_2.length : Int) := of_decide_eq_true (by first | (with_reducible assumption) | assumption)
               obtain ⟨ad176, A176_0, c176_0, e176, hx176_0, hl176_0, hi176_0⟩ := at_T44 HR0_2.out x69_3 p176 q176
               cases e176
               replace hx176_0 := (HB.out.cell (World.block_lt_of_cell? w _ hx176_0)).trans hx176_0
               have HR176_0 := Aside0.mk hi176_0
               have HC176_0 := Aside0.mk hl176_0
               clear hi176_0 hl176_0
               replace p176 := eq_true p176
               replace q176 := eq_true q176
               try go_wp2_with (first | ((with_reducible refine bZ (N := 15) rfl ?_); (try (refine cE (by rfl) ?_; dsimp only)); refine bY ?hg (N := 15) ?hd (cs := #[.slice none 0 0]) (t := 44) ?hr ?_; (case hd => rfl); (case hg => rfl); (case hr => first | (go_simp; done) | (go_simp; rfl)); intro gb177 hg w62 hbox hb; have n0_ := Aside0.mk (Kd.cC (by (with_reducible repeat (first | apply Kd.bR | apply Kd.bQ | apply Kd.bT)); exact HO_11.out) hb); have n1_ := Aside0.mk (bL (g := gb166) (o := .cells #[.int .i64 a0_0, .slice A0_1 l0_1.length c0_1, .slice (some ad176) l0_2.length c0_2, .slice A0_3 l0_3.length c0_3] 52 (0, 0)) (by (with_reducible repeat (first | refine bF ?_ _ | refine bG ?_ | refine bE ?_ _)); exact BK166.out) hb); have n2_ := Aside0.mk (bL (g := gb167) (o := .cells #[.slice A3_0 l3_0.length c3_0] 44 (0, 0)) (by (with_reducible repeat (first | refine bF ?_ _ | refine bG ?_ | refine bE ?_ _)); exact BK167.out) hb); have n3_ := Aside0.mk (bM (by repeat (first | (with_reducible first | exact HB.out | apply bC | apply bA | apply bB | refine bD ?_ GE166.out | refine bD ?_ GE167.out) | exact HB.out)) hb); have n4_ := Aside0.mk (hbox); have n5_ := Aside0.mk ((by rw [hg]; exact (bK (by repeat (first | (with_reducible first | exact HB.out | apply bC | apply bA | apply bB | refine bD ?_ GE166.out | refine bD ?_ GE167.out) | exact HB.out))) : w.heap.size ≤ gb177)); have n6_ := Aside0.mk ((by rw [hg]; exact (bK (by repeat (first | (with_reducible first | exact HB.out | apply bC | apply bA | apply bB | refine bD ?_ GE166.out | refine bD ?_ GE167.out) | exact HB.out))) : w.heap.size ≤ gb177)); have n7_ := Aside0.mk ((by rw [hg]; exact Nat.ne_of_lt (cD (g := gb166) (o := .cells #[.int .i64 a0_0, .slice A0_1 l0_1.length c0_1, .slice (some ad176) l0_2.length c0_2, .slice A0_3 l0_3.length c0_3] 52 (0, 0)) (by (with_reducible repeat (first | refine bF ?_ _ | refine bG ?_ | refine bE ?_ _)); exact BK166.out)) : gb166 ≠ gb177)); have n8_ := Aside0.mk ((by rw [hg]; exact Nat.ne_of_gt (cD (g := gb166) (o := .cells #[.int .i64 a0_0, .slice A0_1 l0_1.length c0_1, .slice (some ad176) l0_2.length c0_2, .slice A0_3 l0_3.length c0_3] 52 (0, 0)) (by (with_reducible repeat (first | refine bF ?_ _ | refine bG ?_ | refine bE ?_ _)); exact BK166.out)) : gb177 ≠ gb166)); have n9_ := Aside0.mk ((by rw [hg]; exact Nat.ne_of_lt (cD (g := gb167) (o := .cells #[.slice A3_0 l3_0.length c3_0] 44 (0, 0)) (by (with_reducible repeat (first | refine bF ?_ _ | refine bG ?_ | refine bE ?_ _)); exact BK167.out)) : gb167 ≠ gb177)); have n10_ := Aside0.mk ((by rw [hg]; exact Nat.ne_of_gt (cD (g := gb167) (o := .cells #[.slice A3_0 l3_0.length c3_0] 44 (0, 0)) (by (with_reducible repeat (first | refine bF ?_ _ | refine bG ?_ | refine bE ?_ _)); exact BK167.out)) : gb177 ≠ gb167)); clear HO_11; clear BK166; clear BK167; clear HB; have HO_11 := n0_; have BK166 := n1_; have BK167 := n2_; have HB := n3_; have BK177 := n4_; have GW177 := n5_; have GE177 := n6_; have NB166_177 := n7_; have NB177_166 := n8_; have NB167_177 := n9_; have NB177_167 := n10_; clear n0_ n1_ n2_ n3_ n4_ n5_ n6_ n7_ n8_ n9_ n10_; clear hb hbox hg; have hnb63 := NB177_166.out; have hnc63 := NB166_177.out; have hnb64 := NB177_167.out; have hnc64 := NB167_177.out; have hcz65_0 : w62.cell? ⟨gb177, 0, none⟩ = some (.slice none 0 0) := (bH BK177.out 0).trans rfl; have hfz65_0 := bJ BK177.out 0) | ((with_reducible refine cB (f := 91) rfl ?_); refine goesL_ (some 77) rfl rfl Try.func91 (by kernel_rfl) rfl #[.agg #[.slice A176_0 ((rd_T44 l0_2 x69_3).f0).length c176_0], .slice A1 l1.length c1] rfl (by (try simp only [List.map_toArray, List.map_cons, List.map_nil]); first | done | rfl | (simp only [List.length_drop, List.length_take]; rfl)) ?_; (with_reducible refine (row_Subst.calls _ _ ((rd_T44 l0_2 x69_3).f0) _ _ l1 t178 t181 _ ?side1 ?side2 ?side3 ?side4 A41.out).mono ?_); (case side1 => exact Kd.bW HR176_0.out (by repeat (first | (with_reducible first | exact HB.out | apply bC | apply bA | apply bB | refine bD ?_ GE166.out | refine bD ?_ GE167.out | refine bD ?_ GE177.out) | exact HB.out))); (case side2 => exact HC176_0.out); (case side3 => exact Kd.bW HR1.out (by repeat (first | (with_reducible first | exact HB.out | apply bC | apply bA | apply bB | refine bD ?_ GE166.out | refine bD ?_ GE167.out | refine bD ?_ GE177.out) | exact HB.out))); (case side4 => exact HC1.out); rintro e w66 ⟨v179, rfl, ho0, hb⟩; refine ⟨_, rfl, ?_⟩; have n0_ := Aside0.mk (Kd.cC (by (with_reducible repeat (first | apply Kd.bR | apply Kd.bQ | apply Kd.bT)); exact (Kd.R_mono (Kd.R_far (p := ⟨gb177, 0, none⟩) (Kd.R_types HO_11.out BK177.out (by decide)) (fun _ hk => hk.2) (.slice A176_0 ((rd_T44 l0_2 x69_3).f0).length c176_0)) (fun _ h_ => h_.1))) hb); have n1_ := Aside0.mk (Kd.R_lower ho0 (bK (by repeat (first | (with_reducible first | exact HB.out | apply bC | apply bA | apply bB | refine bD ?_ GE166.out | refine bD ?_ GE167.out | refine bD ?_ GE177.out) | exact HB.out)))); have n2_ := Aside0.mk (bL (g := gb166) (o := .cells #[.int .i64 a0_0, .slice A0_1 l0_1.length c0_1, .slice (some ad176) l0_2.length c0_2, .slice A0_3 l0_3.length c0_3] 52 (0, 0)) (by (with_reducible repeat (first | refine bF ?_ _ | refine bG ?_ | refine bE ?_ _)); refine blk_far ?_ NB166_177.out _; (with_reducible repeat (first | refine bF ?_ _ | refine bG ?_ | refine bE ?_ _)); exact BK166.out) hb); have n3_ := Aside0.mk (bL (g := gb167) (o := .cells #[.slice A3_0 l3_0.length c3_0] 44 (0, 0)) (by (with_reducible repeat (first | refine bF ?_ _ | refine bG ?_ | refine bE ?_ _)); refine blk_far ?_ NB167_177.out _; (with_reducible repeat (first | refine bF ?_ _ | refine bG ?_ | refine bE ?_ _)); exact BK167.out) hb); have n4_ := Aside0.mk (bL (g := gb177) (o := .cells #[.slice A176_0 ((rd_T44 l0_2 x69_3).f0).length c176_0] 44 (0, 0)) (by (with_reducible repeat (first | refine bF ?_ _ | refine bG ?_ | refine bE ?_ _)); refine blk_put (cs := #[.slice none 0 0]) ?_ 0 _ rfl; (with_reducible repeat (first | refine bF ?_ _ | refine bG ?_ | refine bE ?_ _)); exact BK177.out) hb); have n5_ := Aside0.mk (bM (by repeat (first | (with_reducible first | exact HB.out | apply bC | apply bA | apply bB | refine bD ?_ GE166.out | refine bD ?_ GE167.out | refine bD ?_ GE177.out) | exact HB.out)) hb); clear HO_11; clear BK166; clear BK167; clear BK177; clear HB; have HO_11 := n0_; have HO180 := n1_; have BK166 := n2_; have BK167 := n3_; have BK177 := n4_; have HB := n5_; clear n0_ n1_ n2_ n3_ n4_ n5_; (try clear hb); (try clear hb2); (try clear hk); (try clear hi); (try clear ho0)) | ((with_reducible refine bZ (N := 16) rfl ?_); (try (refine cE (by rfl) ?_; dsimp only)); refine bY ?hg (N := 16) ?hd (cs := #[.slice none 0 0]) (t := 44) ?hr ?_; (case hd => rfl); (case hg => rfl); (case hr => first | (go_simp; done) | (go_simp; rfl)); intro gb182 hg w67 hbox hb; have n0_ := Aside0.mk (Kd.cC (by (with_reducible repeat (first | apply Kd.bR | apply Kd.bQ | apply Kd.bT)); exact HO_11.out) hb); have n1_ := Aside0.mk (Kd.cC (by (with_reducible repeat (first | apply Kd.bR | apply Kd.bQ | apply Kd.bT)); exact HO180.out) hb); have n2_ := Aside0.mk (bL (g := gb166) (o := .cells #[.int .i64 a0_0, .slice A0_1 l0_1.length c0_1, .slice (some ad176) l0_2.length c0_2, .slice A0_3 l0_3.length c0_3] 52 (0, 0)) (by (with_reducible repeat (first | refine bF ?_ _ | refine bG ?_ | refine bE ?_ _)); exact BK166.out) hb); have n3_ := Aside0.mk (bL (g := gb167) (o := .cells #[.slice A3_0 l3_0.length c3_0] 44 (0, 0)) (by (with_reducible repeat (first | refine bF ?_ _ | refine bG ?_ | refine bE ?_ _)); exact BK167.out) hb); have n4_ := Aside0.mk (bL (g := gb177) (o := .cells #[.slice A176_0 ((rd_T44 l0_2 x69_3).f0).length c176_0] 44 (0, 0)) (by (with_reducible repeat (first | refine bF ?_ _ | refine bG ?_ | refine bE ?_ _)); exact BK177.out) hb); have n5_ := Aside0.mk (bM (by repeat (first | (with_reducible first | exact HB.out | apply bC | apply bA | apply bB | refine bD ?_ GE166.out | refine bD ?_ GE167.out | refine bD ?_ GE177.out) | exact HB.out)) hb); have n6_ := Aside0.mk (hbox); have n7_ := Aside0.mk ((by rw [hg]; exact (bK (by repeat (first | (with_reducible first | exact HB.out | apply bC | apply bA | apply bB | refine bD ?_ GE166.out | refine bD ?_ GE167.out | refine bD ?_ GE177.out) | exact HB.out))) : w.heap.size ≤ gb182)); have n8_ := Aside0.mk ((by rw [hg]; exact (bK (by repeat (first | (with_reducible first | exact HB.out | apply bC | apply bA | apply bB | refine bD ?_ GE166.out | refine bD ?_ GE167.out | refine bD ?_ GE177.out) | exact HB.out))) : w.heap.size ≤ gb182)); have n9_ := Aside0.mk ((by rw [hg]; exact Nat.ne_of_lt (cD (g := gb166) (o := .cells #[.int .i64 a0_0, .slice A0_1 l0_1.length c0_1, .slice (some ad176) l0_2.length c0_2, .slice A0_3 l0_3.length c0_3] 52 (0, 0)) (by (with_reducible repeat (first | refine bF ?_ _ | refine bG ?_ | refine bE ?_ _)); exact BK166.out)) : gb166 ≠ gb182)); have n10_ := Aside0.mk ((by rw [hg]; exact Nat.ne_of_gt (cD (g := gb166) (o := .cells #[.int .i64 a0_0, .slice A0_1 l0_1.length c0_1, .slice (some ad176) l0_2.length c0_2, .slice A0_3 l0_3.length c0_3] 52 (0, 0)) (by (with_reducible repeat (first | refine bF ?_ _ | refine bG ?_ | refine bE ?_ _)); exact BK166.out)) : gb182 ≠ gb166)); have n11_ := Aside0.mk ((by rw [hg]; exact Nat.ne_of_lt (cD (g := gb167) (o := .cells #[.slice A3_0 l3_0.length c3_0] 44 (0, 0)) (by (with_reducible repeat (first | refine bF ?_ _ | refine bG ?_ | refine bE ?_ _)); exact BK167.out)) : gb167 ≠ gb182)); have n12_ := Aside0.mk ((by rw [hg]; exact Nat.ne_of_gt (cD (g := gb167) (o := .cells #[.slice A3_0 l3_0.length c3_0] 44 (0, 0)) (by (with_reducible repeat (first | refine bF ?_ _ | refine bG ?_ | refine bE ?_ _)); exact BK167.out)) : gb182 ≠ gb167)); have n13_ := Aside0.mk ((by rw [hg]; exact Nat.ne_of_lt (cD (g := gb177) (o := .cells #[.slice A176_0 ((rd_T44 l0_2 x69_3).f0).length c176_0] 44 (0, 0)) (by (with_reducible repeat (first | refine bF ?_ _ | refine bG ?_ | refine bE ?_ _)); exact BK177.out)) : gb177 ≠ gb182)); have n14_ := Aside0.mk ((by rw [hg]; exact Nat.ne_of_gt (cD (g := gb177) (o := .cells #[.slice A176_0 ((rd_T44 l0_2 x69_3).f0).length c176_0] 44 (0, 0)) (by (with_reducible repeat (first | refine bF ?_ _ | refine bG ?_ | refine bE ?_ _)); exact BK177.out)) : gb182 ≠ gb177)); clear HO_11; clear HO180; clear BK166; clear BK167; clear BK177; clear HB; have HO_11 := n0_; have HO180 := n1_; have BK166 := n2_; have BK167 := n3_; have BK177 := n4_; have HB := n5_; have BK182 := n6_; have GW182 := n7_; have GE182 := n8_; have NB166_182 := n9_; have NB182_166 := n10_; have NB167_182 := n11_; have NB182_167 := n12_; have NB177_182 := n13_; have NB182_177 := n14_; clear n0_ n1_ n2_ n3_ n4_ n5_ n6_ n7_ n8_ n9_ n10_ n11_ n12_ n13_ n14_; clear hb hbox hg; obtain ⟨Ao68, co68, eo68⟩ := Kd.R_slice HO180.out; subst eo68; have hnb69 := NB182_166.out; have hnc69 := NB166_182.out; have hnb70 := NB182_167.out; have hnc70 := NB167_182.out; have hnb71 := NB182_177.out; have hnc71 := NB177_182.out; have hcz72_0 : w67.cell? ⟨gb182, 0, none⟩ = some (.slice none 0 0) := (bH BK182.out 0).trans rfl; have hfz72_0 := bJ BK182.out 0))
               have n0_ : Aside0 (Kd.R k129 129 (w67.setCell ⟨gb182, 0, none⟩ (.slice Ao68 t178.length co68)) w.heap.size (fun _ => True) u11 x11_3) := ⟨by (with_reducible repeat (first | apply Kd.bR | apply Kd.bQ | apply Kd.bT)); exact Kd.R_mono (Kd.R_far (p := ⟨gb182, 0, none⟩) (Kd.R_types HO_11.out BK182.out (by decide)) (fun _ hk => hk.2) (.slice Ao68 t178.length co68)) (fun _ hk => trivial)⟩
               have n1_ : Aside0 (Kd.R k115 115 (w67.setCell ⟨gb182, 0, none⟩ (.slice Ao68 t178.length co68)) w.heap.size (fun _ => True) (.slice Ao68 t178.length co68) t178) := ⟨by (with_reducible repeat (first | apply Kd.bR | apply Kd.bQ | apply Kd.bT)); exact Kd.R_mono (Kd.R_far (p := ⟨gb182, 0, none⟩) (Kd.R_types HO180.out BK182.out (by decide)) (fun _ hk => hk.2) (.slice Ao68 t178.length co68)) (fun _ hk => trivial)⟩
               have n2_ : Aside0 ((w67.setCell ⟨gb182, 0, none⟩ (.slice Ao68 t178.length co68)).heap[gb166]? = some (.cells #[.int .i64 a0_0, .slice A0_1 l0_1.length c0_1, .slice (some ad176) l0_2.length c0_2, .slice A0_3 l0_3.length c0_3] 52 (0, 0))) := ⟨by (with_reducible repeat (first | refine bF ?_ _ | refine bG ?_ | refine bE ?_ _)); refine blk_far ?_ NB166_182.out _; (with_reducible repeat (first | refine bF ?_ _ | refine bG ?_ | refine bE ?_ _)); exact BK166.out⟩
               have n3_ : Aside0 ((w67.setCell ⟨gb182, 0, none⟩ (.slice Ao68 t178.length co68)).heap[gb167]? = some (.cells #[.slice A3_0 l3_0.length c3_0] 44 (0, 0))) := ⟨by (with_reducible repeat (first | refine bF ?_ _ | refine bG ?_ | refine bE ?_ _)); refine blk_far ?_ NB167_182.out _; (with_reducible repeat (first | refine bF ?_ _ | refine bG ?_ | refine bE ?_ _)); exact BK167.out⟩
               have n4_ : Aside0 ((w67.setCell ⟨gb182, 0, none⟩ (.slice Ao68 t178.length co68)).heap[gb177]? = some (.cells #[.slice A176_0 ((rd_T44 l0_2 x69_3).f0).length c176_0] 44 (0, 0))) := ⟨by (with_reducible repeat (first | refine bF ?_ _ | refine bG ?_ | refine bE ?_ _)); refine blk_far ?_ NB177_182.out _; (with_reducible repeat (first | refine bF ?_ _ | refine bG ?_ | refine bE ?_ _)); exact BK177.out⟩
               have n5_ : Aside0 ((w67.setCell ⟨gb182, 0, none⟩ (.slice Ao68 t178.length co68)).heap[gb182]? = some (.cells #[.slice Ao68 t178.length co68] 44 (0, 0))) := ⟨by (with_reducible repeat (first | refine bF ?_ _ | refine bG ?_ | refine bE ?_ _)); refine blk_put (cs := #[.slice none 0 0]) ?_ 0 _ rfl; (with_reducible repeat (first | refine bF ?_ _ | refine bG ?_ | refine bE ?_ _)); exact BK182.out⟩
               have n6_ : Aside0 (Below w.heap.size w (w67.setCell ⟨gb182, 0, none⟩ (.slice Ao68 t178.length co68))) := ⟨by repeat (first | (with_reducible first | exact HB.out | apply bC | apply bA | apply bB | refine bD ?_ GE166.out | refine bD ?_ GE167.out | refine bD ?_ GE177.out | refine bD ?_ GE182.out) | exact HB.out)⟩
               (try clear HO_11)
               (try clear HO180)
               (try clear BK166)
               (try clear BK167)
               (try clear BK177)
               (try clear BK182)
               (try clear HB)
               generalize (w67.setCell ⟨gb182, 0, none⟩ (.slice Ao68 t178.length co68)) = w73 at n0_ n1_ n2_ n3_ n4_ n5_ n6_ ⊢
               have HO_11 := n0_
               have HO180 := n1_
               have BK166 := n2_
               have BK167 := n3_
               have BK177 := n4_
               have BK182 := n5_
               have HB := n6_
               clear n0_ n1_ n2_ n3_ n4_ n5_ n6_
               have n0_ := Aside0.mk (Kd.bT HO_11.out)
               have n1_ := Aside0.mk (Kd.bT HO180.out)
               have n2_ := Aside0.mk (bG BK166.out)
               have n3_ := Aside0.mk (bG BK167.out)
               have n4_ := Aside0.mk (bG BK177.out)
               have n5_ := Aside0.mk (bG BK182.out)
               have n6_ := Aside0.mk (bB HB.out)
               clear HO_11
               clear HO180
               clear BK166
               clear BK167
               clear BK177
               clear BK182
               clear HB
               have HO_11 := n0_
               have HO180 := n1_
               have BK166 := n2_
               have BK167 := n3_
               have BK177 := n4_
               have BK182 := n5_
               have HB := n6_
               clear n0_ n1_ n2_ n3_ n4_ n5_ n6_
               have p183 : 0 ≤ (x69_3 : Int) := of_decide_eq_true (by first | (with_reducible assumption) | assumption)
               have q183 : x69_3 < (l2.length : Int) := of_decide_eq_true (by first | (with_reducible assumption) | assumption)
               obtain ⟨ad183, A183_0, c183_0, e183, hx183_0, hl183_0, hi183_0⟩ := at_T44 HR2.out x69_3 p183 q183
               have hw183_0 := hx183_0
               cases e183
               replace hx183_0 := (HB.out.cell (World.block_lt_of_cell? w _ hx183_0)).trans hx183_0
               have HR183_0 := Aside0.mk hi183_0
               have HC183_0 := Aside0.mk hl183_0
               clear hi183_0 hl183_0
               replace p183 := eq_true p183
               replace q183 := eq_true q183
               refine start_ (n := 13) (S := fun w' => w'.cell? ⟨gb182, 0, none⟩ = some (.slice Ao68 t178.length co68) ∧ w'.cell? (ad183.add (x69_3).toNat) = some (.slice A183_0 ((rd_T44 l2 x69_3).f0).length c183_0)) (ds := []) #[false, false, false, false, false, false, false, false, false, false, false, false, false] (by kernel_rfl) rfl rfl ⟨(bH BK182.out 0).trans rfl, ((HB.out.cell (World.block_lt_of_cell? w _ hw183_0)).trans hw183_0)⟩ (fun hHeld => ?_); refine with_tabW sig_Call.tab16 sig_Call.bits16 (fun HT_ HW_ => ?_)
               generalize w73.drew = w74 at HO_11 HO180 BK166 BK167 BK177 BK182 HB HR183_0 hx183_0 hHeld ⊢
               refine bX (i := 0) (N := some 81) (v := ?_) (a' := ?_) #[true, false, false, false, false, false, false, false, false, false, false, false, false] rfl rfl (bS HT_.out (by kernel_rfl)) (fun _ _ _ h => h) (Or.inl ⟨by rfl, ?_⟩) ?_ ?_
               rotate_left
               ·intro w'
                go_simp
                with_reducible rfl
               rotate_left
               ·simp only [Act.put, sZ1, sZ2, sZ3, bN, bP]
                rfl
               refine bX (i := 1) (N := some 82) (v := ?_) (a' := ?_) #[true, true, false, false, false, false, false, false, false, false, false, false, false] rfl rfl (bS HT_.out (by kernel_rfl)) (fun _ _ _ h => h) (Or.inl ⟨by rfl, ?_⟩) ?_ ?_
               rotate_left
               ·intro w'
                go_simp
                with_reducible rfl
               rotate_left
               ·simp only [Act.put, sZ1, sZ2, sZ3, bN, bP]
                rfl
               refine bX (i := 2) (N := some 83) (v := ?_) (a' := ?_) #[true, true, true, false, false, false, false, false, false, false, false, false, false] rfl rfl (bS HT_.out (by kernel_rfl)) (fun _ _ _ h => h) (Or.inl ⟨by rfl, ?_⟩) ?_ ?_
               rotate_left
               ·intro w'
                go_simp
                with_reducible rfl
               rotate_left
               ·simp only [Act.put, sZ1, sZ2, sZ3, bN, bP]
                rfl
               refine bX (i := 5) (N := some 86) (v := ?_) (a' := ?_) #[true, true, true, false, false, true, false, false, false, false, false, false, false] rfl rfl (bS HT_.out (by kernel_rfl)) (fun _ _ _ h => h) (Or.inl ⟨by rfl, ?_⟩) ?_ ?_
               rotate_left
               ·intro w'
                go_simp
                with_reducible rfl
               rotate_left
               ·simp only [Act.put, sZ1, sZ2, sZ3, bN, bP]
                rfl
               refine bX (i := 6) (N := some 87) (v := ?_) (a' := ?_) #[true, true, true, false, false, true, true, false, false, false, false, false, false] rfl rfl (bS HT_.out (by kernel_rfl)) (fun _ _ _ h => h) (Or.inl ⟨by rfl, ?_⟩) ?_ ?_
               rotate_left
               ·intro w'
                go_simp
                with_reducible rfl
               rotate_left
               ·simp only [Act.put, sZ1, sZ2, sZ3, bN, bP]
                rfl
               refine take_ (i := 3) (N := some 84) (v := ?_) (a' := ?_) #[true, true, true, true, false, true, true, false, false, false, false, false, false] rfl rfl (take_ofW HT_.out HW_.out (by kernel_rfl)) (fun _ _ _ h => h) (Or.inl ⟨by rfl, ?_⟩) hHeld ?_ ?_
               rotate_left
               ·rintro w' ⟨s0, s1⟩
                go_simp
                with_reducible rfl
               rotate_left
               ·simp only [Act.put, sZ1, sZ2, sZ3, bN, bP]
                rfl
               refine take_ (i := 4) (N := some 85) (v := ?_) (a' := ?_) #[true, true, true, true, true, true, true, false, false, false, false, false, false] rfl rfl (take_ofW HT_.out HW_.out (by kernel_rfl)) (fun _ _ _ h => h) (Or.inl ⟨by rfl, ?_⟩) hHeld ?_ ?_
               rotate_left
               ·rintro w' ⟨s0, s1⟩
                go_simp
                with_reducible rfl
               rotate_left
               ·simp only [Act.put, sZ1, sZ2, sZ3, bN, bP]
                rfl
               refine one_ (i := 7) (N := some 88) #[true, true, true, true, true, true, true, true, false, false, false, false, false] rfl rfl (one_of HT_.out (by kernel_rfl)) (by decide) (fun K hK => ?_)
               refine goes_ Try.func92 (by kernel_rfl) rfl #[.agg #[.slice A183_0 ((rd_T44 l2 x69_3).f0).length c183_0], .agg #[.slice Ao68 t178.length co68], .int .i64 5, .int .i64 (wrap64 (x69_3 * 16))] (by rfl) rfl rfl (by (try simp only [List.map_toArray, List.map_cons, List.map_nil]); first | done | rfl | (simp only [List.length_drop, List.length_take]; rfl)) ?_
               with_reducible refine (relate_Flow.calls _ _ ((rd_T44 l2 x69_3).f0) _ _ t178 5 (wrap64 (x69_3 * 16)) t184 t187 _ ?side1 ?side2 ?side3 ?side4 A43.out).mono ?_
               (case side1 => repeat (first | exact (Kd.bW HR183_0.out HB.out) | (with_reducible refine Kd.bV ?_ _) | (with_reducible refine Kd.bU ?_ _) | (with_reducible refine Kd.cA ?_)))
               (case side2 => exact HC183_0.out)
               (case side3 => repeat (first | exact (Kd.cF HO180.out).2.2 | (with_reducible refine Kd.bV ?_ _) | (with_reducible refine Kd.bU ?_ _) | (with_reducible refine Kd.cA ?_)))
               (case side4 => exact (Kd.cF HO180.out).2.1)
               rintro e w75 ⟨v185, rfl, ho0, hb⟩
               refine ⟨_, rfl, ?_⟩
               have n0_ := Aside0.mk (Kd.R_elder' (by (with_reducible repeat (first | apply Kd.bR | apply Kd.bQ | apply Kd.bT)); exact HO_11.out) (Kd.R_base ho0) hb)
               have n1_ := Aside0.mk (Kd.cC (by (with_reducible repeat (first | apply Kd.bR | apply Kd.bQ | apply Kd.bT)); exact HO180.out) hb)
               have n2_ := Aside0.mk (Kd.R_lower (Kd.R_new' ho0 (Kd.R_lt (by (with_reducible repeat (first | apply Kd.bR | apply Kd.bQ | apply Kd.bT)); exact HO_11.out))) (bK (by repeat (first | (with_reducible first | exact HB.out | apply bC | apply bA | apply bB | refine bD ?_ GE166.out | refine bD ?_ GE167.out | refine bD ?_ GE177.out | refine bD ?_ GE182.out) | exact HB.out))))
               have n3_ := Aside0.mk (bL (g := gb166) (o := .cells #[.int .i64 a0_0, .slice A0_1 l0_1.length c0_1, .slice (some ad176) l0_2.length c0_2, .slice A0_3 l0_3.length c0_3] 52 (0, 0)) (by (with_reducible repeat (first | refine bF ?_ _ | refine bG ?_ | refine bE ?_ _)); exact BK166.out) hb)
               have n4_ := Aside0.mk (bL (g := gb167) (o := .cells #[.slice A3_0 l3_0.length c3_0] 44 (0, 0)) (by (with_reducible repeat (first | refine bF ?_ _ | refine bG ?_ | refine bE ?_ _)); exact BK167.out) hb)
               have n5_ := Aside0.mk (bL (g := gb177) (o := .cells #[.slice A176_0 ((rd_T44 l0_2 x69_3).f0).length c176_0] 44 (0, 0)) (by (with_reducible repeat (first | refine bF ?_ _ | refine bG ?_ | refine bE ?_ _)); exact BK177.out) hb)
               have n6_ := Aside0.mk (bL (g := gb182) (o := .cells #[.slice Ao68 t178.length co68] 44 (0, 0)) (by (with_reducible repeat (first | refine bF ?_ _ | refine bG ?_ | refine bE ?_ _)); exact BK182.out) hb)
               have n7_ := Aside0.mk (bM (by repeat (first | (with_reducible first | exact HB.out | apply bC | apply bA | apply bB | refine bD ?_ GE166.out | refine bD ?_ GE167.out | refine bD ?_ GE177.out | refine bD ?_ GE182.out) | exact HB.out)) hb)
               clear HO_11
               clear HO180
               clear BK166
               clear BK167
               clear BK177
               clear BK182
               clear HB
               have HO_11 := n0_
               have HO180 := n1_
               have HO186 := n2_
               have BK166 := n3_
               have BK167 := n4_
               have BK177 := n5_
               have BK182 := n6_
               have HB := n7_
               clear n0_ n1_ n2_ n3_ n4_ n5_ n6_ n7_
               (try clear hb)
               (try clear hb2)
               (try clear hk)
               (try clear hi)
               (try clear ho0)
               refine hK.out _ _ ⟨(bH BK182.out 0).trans rfl, ((HB.out.cell (World.block_lt_of_cell? w _ hw183_0)).trans hw183_0)⟩ (fun hHeld => ?_)
               clear hK K
               refine norm_ (a' := ?_) ?_ ?_
               rotate_left
               ·show Act.put _ (some 88) _ = _
                simp only [Act.put, sZ1, sZ2, sZ3, bN, bP]
                rfl
               refine bX (i := 8) (N := some 80) (v := ?_) (a' := ?_) #[true, true, true, true, true, true, true, true, true, false, false, false, false] rfl rfl (bS HT_.out (by kernel_rfl)) (fun _ _ _ h => h) (Or.inl ⟨by rfl, ?_⟩) ?_ ?_
               rotate_left
               ·intro w'
                go_simp
                with_reducible rfl
               rotate_left
               ·simp only [Act.put, sZ1, sZ2, sZ3, bN, bP]
                rfl
               refine bX (i := 9) (N := some 89) (v := ?_) (a' := ?_) #[true, true, true, true, true, true, true, true, true, true, false, false, false] rfl rfl (bS HT_.out (by kernel_rfl)) (fun _ _ _ h => h) (Or.inl ⟨by rfl, ?_⟩) ?_ ?_
               rotate_left
               ·intro w'
                go_simp
                with_reducible rfl
               rotate_left
               ·simp only [Act.put, sZ1, sZ2, sZ3, bN, bP]
                rfl
               refine bX (i := 10) (N := some 90) (v := ?_) (a' := ?_) #[true, true, true, true, true, true, true, true, true, true, true, false, false] rfl rfl (bS HT_.out (by kernel_rfl)) (fun _ _ _ h => h) (Or.inl ⟨by rfl, ?_⟩) ?_ ?_
               rotate_left
               ·intro w'
                go_simp
                with_reducible rfl
               rotate_left
               ·simp only [Act.put, sZ1, sZ2, sZ3, bN, bP]
                rfl
               refine bX (i := 11) (N := some 18) (v := ?_) (a' := ?_) #[true, true, true, true, true, true, true, true, true, true, true, true, false] rfl rfl (bS HT_.out (by kernel_rfl)) (fun _ _ _ h => h) (Or.inl ⟨by rfl, ?_⟩) ?_ ?_
               rotate_left
               ·intro w'
                go_simp
                with_reducible rfl
               rotate_left
               ·simp only [Act.put, sZ1, sZ2, sZ3, bN, bP]
                rfl
               refine bX (i := 12) (N := some 19) (v := ?_) (a' := ?_) #[true, true, true, true, true, true, true, true, true, true, true, true, true] rfl rfl (bS HT_.out (by kernel_rfl)) (fun _ _ _ h => h) (Or.inl ⟨by rfl, ?_⟩) ?_ ?_
               rotate_left
               ·intro w'
                go_simp
                with_reducible rfl
               rotate_left
               ·simp only [Act.put, sZ1, sZ2, sZ3, bN, bP]
                rfl
               refine done_ (done_of HT_.out (by kernel_rfl)) ?_
               try go_wp2
               go_ret2
               exact ⟨_, by first | rfl | (simp [errW_none, errW_some] <;> rfl) | (simp [*, errW_none, errW_some] <;> rfl), by first | exact Kd.R_nil _ _ _ _ _ | exact Kd.N_nil _ _ _ _ _ | exact Kd.V_nil _ _ _ _ _ | exact Kd.Q_nil _ _ _ _ _ | exact Kd.S_nil _ _ _ _ _, by repeat (first | (with_reducible first | exact HB.out | apply bC | apply bA | apply bB | refine bD ?_ GE166.out | refine bD ?_ GE167.out | refine bD ?_ GE177.out | refine bD ?_ GE182.out) | exact HB.out)⟩
             ·rw [if_neg c42] at H
              exact absurd H (by simp)
            ·rw [if_neg c40] at H
             exact absurd H (by simp)
           ·rw [if_neg c39] at H
            exact absurd H (by simp)
          ·rw [if_neg c38] at H
           have c38b0 : decide (x69_3 < (l0_2.length : Int)) = false := decide_eq_false c38
           clear c38
           replace H := Option.bind_eq_some_iff.mp H
           obtain ⟨⟨t191, t194⟩, A760, H⟩ := H
           replace H : ((relate_Flow.f t191 l3_0 6 0).bind fun bt196 => (if bt196.2 = 0 then (if x11_3.length + bt196.1.length < 3518437208883 then (some ((x11_3 ++ bt196.1), 0)) else (none)) else (some (([] : List (S129)), bt196.2)))) = some (r1, r2) := H
           have A76 := Aside0.mk A760
           clear A760
           replace H := Option.bind_eq_some_iff.mp H
           obtain ⟨⟨t196, t199⟩, A770, H⟩ := H
           replace H : (if t199 = 0 then (if x11_3.length + t196.length < 3518437208883 then (some ((x11_3 ++ t196), 0)) else (none)) else (some (([] : List (S129)), t199))) = some (r1, r2) := H
           have A77 := Aside0.mk A770
           clear A770
           by_cases c78 : t199 = 0
           ·rw [if_pos c78] at H
            have c78b0 : (t199 == 0) = true := beq_iff_eq.mpr c78
            have c78b1 : (t199 != 0) = false := bne_eq_false_iff_eq.mpr c78
            clear c78
            by_cases c79 : x11_3.length + t196.length < 3518437208883
            ·rw [if_pos c79] at H
             have LMc79 := Aside0.mk c79
             clear c79
             obtain ⟨y200, hy200⟩ : ∃ y_ : List (S129), y_ = (x11_3 ++ t196) := ⟨_, rfl⟩
             replace H : (some (y200, 0)) = some (r1, r2) := by first | (rw [hy200]; with_reducible exact H) | (have H2_ := (Option.bind_some _ _).symm.trans H; rw [hy200]; with_reducible exact H2_) | (have H2_ := (Option.bind_some _ _).symm.trans H; with_reducible exact H2_) | with_reducible exact H | (rw [hy200]; exact H) | exact H
             have Ny200 := Aside0.mk hy200
             clear hy200
             simp only [Option.some.injEq, Prod.mk.injEq] at H
             obtain ⟨rfl, rfl⟩ := H
             have hnb80 := NB166_167.out
             have hnc80 := NB167_166.out
             have hcz81_0 : wr.cell? ⟨gb166, 0, none⟩ = some (.int .i64 a0_0) := (bH BK166.out 0).trans rfl
             have hcz81_1 : wr.cell? ⟨gb166, 1, none⟩ = some (.slice A0_1 l0_1.length c0_1) := (bH BK166.out 1).trans rfl
             have hcz81_2 : wr.cell? ⟨gb166, 2, none⟩ = some (.slice A0_2 l0_2.length c0_2) := (bH BK166.out 2).trans rfl
             have hcz81_3 : wr.cell? ⟨gb166, 3, none⟩ = some (.slice A0_3 l0_3.length c0_3) := (bH BK166.out 3).trans rfl
             have hfz81_0 := bJ BK166.out 0
             have hfz81_1 := bJ BK166.out 1
             have hfz81_2 := bJ BK166.out 2
             have hfz81_3 := bJ BK166.out 3
             go_wp2_with (first | ((with_reducible refine cB (f := 91) rfl ?_); refine goesL_ (some 102) rfl rfl Try.func91 (by kernel_rfl) rfl #[.agg #[.slice A0_3 l0_3.length c0_3], .slice A1 l1.length c1] rfl (by (try simp only [List.map_toArray, List.map_cons, List.map_nil]); first | done | rfl | (simp only [List.length_drop, List.length_take]; rfl)) ?_; (with_reducible refine (row_Subst.calls _ _ l0_3 _ _ l1 t191 t194 _ ?side1 ?side2 ?side3 ?side4 A76.out).mono ?_); (case side1 => repeat (first | exact (Kd.bW HR0_3.out HB.out) | (with_reducible refine Kd.bV ?_ _) | (with_reducible refine Kd.bU ?_ _) | (with_reducible refine Kd.cA ?_))); (case side2 => exact HC0_3.out); (case side3 => repeat (first | exact (Kd.bW HR1.out HB.out) | (with_reducible refine Kd.bV ?_ _) | (with_reducible refine Kd.bU ?_ _) | (with_reducible refine Kd.cA ?_))); (case side4 => exact HC1.out); rintro e w82 ⟨v192, rfl, ho0, hb⟩; refine ⟨_, rfl, ?_⟩; have n0_ := Aside0.mk (Kd.cC (by (with_reducible repeat (first | apply Kd.bR | apply Kd.bQ | apply Kd.bT)); exact HO_11.out) hb); have n1_ := Aside0.mk (Kd.R_lower ho0 (bK (by repeat (first | (with_reducible first | exact HB.out | apply bC | apply bA | apply bB | refine bD ?_ GE166.out | refine bD ?_ GE167.out) | exact HB.out)))); have n2_ := Aside0.mk (bL (g := gb166) (o := .cells #[.int .i64 a0_0, .slice A0_1 l0_1.length c0_1, .slice A0_2 l0_2.length c0_2, .slice A0_3 l0_3.length c0_3] 52 (0, 0)) (by (with_reducible repeat (first | refine bF ?_ _ | refine bG ?_ | refine bE ?_ _)); exact BK166.out) hb); have n3_ := Aside0.mk (bL (g := gb167) (o := .cells #[.slice A3_0 l3_0.length c3_0] 44 (0, 0)) (by (with_reducible repeat (first | refine bF ?_ _ | refine bG ?_ | refine bE ?_ _)); exact BK167.out) hb); have n4_ := Aside0.mk (bM (by repeat (first | (with_reducible first | exact HB.out | apply bC | apply bA | apply bB | refine bD ?_ GE166.out | refine bD ?_ GE167.out) | exact HB.out)) hb); clear HO_11; clear BK166; clear BK167; clear HB; have HO_11 := n0_; have HO193 := n1_; have BK166 := n2_; have BK167 := n3_; have HB := n4_; clear n0_ n1_ n2_ n3_ n4_; (try clear hb); (try clear hb2); (try clear hk); (try clear hi); (try clear ho0)) | ((with_reducible refine bZ (N := 20) rfl ?_); (try (refine cE (by rfl) ?_; dsimp only)); refine bY ?hg (N := 20) ?hd (cs := #[.slice none 0 0]) (t := 44) ?hr ?_; (case hd => rfl); (case hg => rfl); (case hr => first | (go_simp; done) | (go_simp; rfl)); intro gb195 hg w83 hbox hb; have n0_ := Aside0.mk (Kd.cC (by (with_reducible repeat (first | apply Kd.bR | apply Kd.bQ | apply Kd.bT)); exact HO_11.out) hb); have n1_ := Aside0.mk (Kd.cC (by (with_reducible repeat (first | apply Kd.bR | apply Kd.bQ | apply Kd.bT)); exact HO193.out) hb); have n2_ := Aside0.mk (bL (g := gb166) (o := .cells #[.int .i64 a0_0, .slice A0_1 l0_1.length c0_1, .slice A0_2 l0_2.length c0_2, .slice A0_3 l0_3.length c0_3] 52 (0, 0)) (by (with_reducible repeat (first | refine bF ?_ _ | refine bG ?_ | refine bE ?_ _)); exact BK166.out) hb); have n3_ := Aside0.mk (bL (g := gb167) (o := .cells #[.slice A3_0 l3_0.length c3_0] 44 (0, 0)) (by (with_reducible repeat (first | refine bF ?_ _ | refine bG ?_ | refine bE ?_ _)); exact BK167.out) hb); have n4_ := Aside0.mk (bM (by repeat (first | (with_reducible first | exact HB.out | apply bC | apply bA | apply bB | refine bD ?_ GE166.out | refine bD ?_ GE167.out) | exact HB.out)) hb); have n5_ := Aside0.mk (hbox); have n6_ := Aside0.mk ((by rw [hg]; exact (bK (by repeat (first | (with_reducible first | exact HB.out | apply bC | apply bA | apply bB | refine bD ?_ GE166.out | refine bD ?_ GE167.out) | exact HB.out))) : w.heap.size ≤ gb195)); have n7_ := Aside0.mk ((by rw [hg]; exact (bK (by repeat (first | (with_reducible first | exact HB.out | apply bC | apply bA | apply bB | refine bD ?_ GE166.out | refine bD ?_ GE167.out) | exact HB.out))) : w.heap.size ≤ gb195)); have n8_ := Aside0.mk ((by rw [hg]; exact Nat.ne_of_lt (cD (g := gb166) (o := .cells #[.int .i64 a0_0, .slice A0_1 l0_1.length c0_1, .slice A0_2 l0_2.length c0_2, .slice A0_3 l0_3.length c0_3] 52 (0, 0)) (by (with_reducible repeat (first | refine bF ?_ _ | refine bG ?_ | refine bE ?_ _)); exact BK166.out)) : gb166 ≠ gb195)); have n9_ := Aside0.mk ((by rw [hg]; exact Nat.ne_of_gt (cD (g := gb166) (o := .cells #[.int .i64 a0_0, .slice A0_1 l0_1.length c0_1, .slice A0_2 l0_2.length c0_2, .slice A0_3 l0_3.length c0_3] 52 (0, 0)) (by (with_reducible repeat (first | refine bF ?_ _ | refine bG ?_ | refine bE ?_ _)); exact BK166.out)) : gb195 ≠ gb166)); have n10_ := Aside0.mk ((by rw [hg]; exact Nat.ne_of_lt (cD (g := gb167) (o := .cells #[.slice A3_0 l3_0.length c3_0] 44 (0, 0)) (by (with_reducible repeat (first | refine bF ?_ _ | refine bG ?_ | refine bE ?_ _)); exact BK167.out)) : gb167 ≠ gb195)); have n11_ := Aside0.mk ((by rw [hg]; exact Nat.ne_of_gt (cD (g := gb167) (o := .cells #[.slice A3_0 l3_0.length c3_0] 44 (0, 0)) (by (with_reducible repeat (first | refine bF ?_ _ | refine bG ?_ | refine bE ?_ _)); exact BK167.out)) : gb195 ≠ gb167)); clear HO_11; clear HO193; clear BK166; clear BK167; clear HB; have HO_11 := n0_; have HO193 := n1_; have BK166 := n2_; have BK167 := n3_; have HB := n4_; have BK195 := n5_; have GW195 := n6_; have GE195 := n7_; have NB166_195 := n8_; have NB195_166 := n9_; have NB167_195 := n10_; have NB195_167 := n11_; clear n0_ n1_ n2_ n3_ n4_ n5_ n6_ n7_ n8_ n9_ n10_ n11_; clear hb hbox hg; obtain ⟨Ao84, co84, eo84⟩ := Kd.R_slice HO193.out; subst eo84; have hnb85 := NB195_166.out; have hnc85 := NB166_195.out; have hnb86 := NB195_167.out; have hnc86 := NB167_195.out; have hcz87_0 : w83.cell? ⟨gb195, 0, none⟩ = some (.slice none 0 0) := (bH BK195.out 0).trans rfl; have hfz87_0 := bJ BK195.out 0; have hcz88_0 : w83.cell? ⟨gb167, 0, none⟩ = some (.slice A3_0 l3_0.length c3_0) := (bH BK167.out 0).trans rfl; have hfz88_0 := bJ BK167.out 0) | ((with_reducible refine cB (f := 92) rfl ?_); refine goesL_ (some 108) rfl rfl Try.func92 (by kernel_rfl) rfl #[.agg #[.slice Ao84 t191.length co84], .agg #[.slice A3_0 l3_0.length c3_0], .int .i64 6, .int .i64 0] rfl (by (try simp only [List.map_toArray, List.map_cons, List.map_nil]); first | done | rfl | (simp only [List.length_drop, List.length_take]; rfl)) ?_; (with_reducible refine (relate_Flow.calls _ _ t191 _ _ l3_0 6 0 t196 t199 _ ?side1 ?side2 ?side3 ?side4 A77.out).mono ?_); (case side1 => refine (Kd.cF (e := 115) (base := w.heap.size) (ok := fun k_ => True) (n := t191.length) (c := co84) ?_).2.2; exact (by (with_reducible repeat (first | apply Kd.bR | apply Kd.bQ | apply Kd.bT)); exact (Kd.R_mono (Kd.R_far (p := ⟨gb195, 0, none⟩) (Kd.R_types HO193.out BK195.out (by decide)) (fun _ hk => hk.2) (.slice Ao84 t191.length co84)) (fun _ h_ => h_.1)))); (case side2 => exact (Kd.cF HO193.out).2.1); (case side3 => exact Kd.bW HR3_0.out (by repeat (first | (with_reducible first | exact HB.out | apply bC | apply bA | apply bB | refine bD ?_ GE166.out | refine bD ?_ GE167.out | refine bD ?_ GE195.out) | exact HB.out))); (case side4 => exact HC3_0.out); rintro e w89 ⟨v197, rfl, ho0, hb⟩; refine ⟨_, rfl, ?_⟩; have n0_ := Aside0.mk (Kd.R_elder' (by (with_reducible repeat (first | apply Kd.bR | apply Kd.bQ | apply Kd.bT)); exact (Kd.R_mono (Kd.R_far (p := ⟨gb195, 0, none⟩) (Kd.R_types HO_11.out BK195.out (by decide)) (fun _ hk => hk.2) (.slice Ao84 t191.length co84)) (fun _ h_ => h_.1))) (Kd.R_base ho0) hb); have n1_ := Aside0.mk (Kd.cC (by (with_reducible repeat (first | apply Kd.bR | apply Kd.bQ | apply Kd.bT)); exact (Kd.R_mono (Kd.R_far (p := ⟨gb195, 0, none⟩) (Kd.R_types HO193.out BK195.out (by decide)) (fun _ hk => hk.2) (.slice Ao84 t191.length co84)) (fun _ h_ => h_.1))) hb); have n2_ := Aside0.mk (Kd.R_lower (Kd.R_new' ho0 (Kd.R_lt (by (with_reducible repeat (first | apply Kd.bR | apply Kd.bQ | apply Kd.bT)); exact (Kd.R_mono (Kd.R_far (p := ⟨gb195, 0, none⟩) (Kd.R_types HO_11.out BK195.out (by decide)) (fun _ hk => hk.2) (.slice Ao84 t191.length co84)) (fun _ h_ => h_.1))))) (bK (by repeat (first | (with_reducible first | exact HB.out | apply bC | apply bA | apply bB | refine bD ?_ GE166.out | refine bD ?_ GE167.out | refine bD ?_ GE195.out) | exact HB.out)))); have n3_ := Aside0.mk (bL (g := gb166) (o := .cells #[.int .i64 a0_0, .slice A0_1 l0_1.length c0_1, .slice A0_2 l0_2.length c0_2, .slice A0_3 l0_3.length c0_3] 52 (0, 0)) (by (with_reducible repeat (first | refine bF ?_ _ | refine bG ?_ | refine bE ?_ _)); refine blk_far ?_ NB166_195.out _; (with_reducible repeat (first | refine bF ?_ _ | refine bG ?_ | refine bE ?_ _)); exact BK166.out) hb); have n4_ := Aside0.mk (bL (g := gb167) (o := .cells #[.slice A3_0 l3_0.length c3_0] 44 (0, 0)) (by (with_reducible repeat (first | refine bF ?_ _ | refine bG ?_ | refine bE ?_ _)); refine blk_far ?_ NB167_195.out _; (with_reducible repeat (first | refine bF ?_ _ | refine bG ?_ | refine bE ?_ _)); exact BK167.out) hb); have n5_ := Aside0.mk (bL (g := gb195) (o := .cells #[.slice Ao84 t191.length co84] 44 (0, 0)) (by (with_reducible repeat (first | refine bF ?_ _ | refine bG ?_ | refine bE ?_ _)); refine blk_put (cs := #[.slice none 0 0]) ?_ 0 _ rfl; (with_reducible repeat (first | refine bF ?_ _ | refine bG ?_ | refine bE ?_ _)); exact BK195.out) hb); have n6_ := Aside0.mk (bM (by repeat (first | (with_reducible first | exact HB.out | apply bC | apply bA | apply bB | refine bD ?_ GE166.out | refine bD ?_ GE167.out | refine bD ?_ GE195.out) | exact HB.out)) hb); clear HO_11; clear HO193; clear BK166; clear BK167; clear BK195; clear HB; have HO_11 := n0_; have HO193 := n1_; have HO198 := n2_; have BK166 := n3_; have BK167 := n4_; have BK195 := n5_; have HB := n6_; clear n0_ n1_ n2_ n3_ n4_ n5_ n6_; (try clear hb); (try clear hb2); (try clear hk); (try clear hi); (try clear ho0); obtain ⟨Ao91, co91, eo91⟩ := Kd.R_slice HO198.out; subst eo91) | ((with_reducible refine gate_builtin (b := .append) (xs := #[.tmp 114, .tmp 115]) rfl ?_); (try (refine cE (by rfl) ?_; dsimp only)); at_builtin; refine Kd.R_append_rows k129 (w0 := w) w.heap.size rfl (.tmp 114) (.tmp 115) 60 129 (.agg #[(.int .i64 0), (.int .i64 0), (.int .i64 0), (.int .i64 0), (.bool false)]) 40 rfl Try.underlying60 info129 rfl (by decide) (by omega) u11 x11_3 t196 _ _ _ (fun k_ => some k_ ≠ (.slice Ao91 t196.length co91 : Value).ownBlock) (fun _ => False) rfl rfl ?aO ?aR (fun _ _ h => h) (fun _ h => h.elim) ?aF ?aB ?aS ?aL ?_; (case aR => repeat (first | exact (Kd.cF HO198.out).2.2 | (with_reducible refine Kd.bV ?_ _) | (with_reducible refine Kd.bU ?_ _) | (with_reducible refine Kd.cA ?_))); (case aB => exact (by repeat (first | (with_reducible first | exact HB.out | apply bC | apply bA | apply bB | refine bD ?_ GE166.out | refine bD ?_ GE167.out | refine bD ?_ GE195.out) | exact HB.out))); (case aF => exact (fun k_ hk => Kd.fresh' (Kd.R_lt (by (with_reducible repeat (first | apply Kd.bR | apply Kd.bQ | apply Kd.bT)); exact HO198.out)) k_ hk)); (case aO => exact (by (with_reducible repeat (first | apply Kd.bR | apply Kd.bQ | apply Kd.bT)); exact Kd.R_mono HO_11.out (fun _ hk => hk.2))); (case aS => exact (bK (by repeat (first | (with_reducible first | exact HB.out | apply bC | apply bA | apply bB | refine bD ?_ GE166.out | refine bD ?_ GE167.out | refine bD ?_ GE195.out) | exact HB.out)))); (case aL => have := LMc79.out; omega); intro v201 w90 ho hb hg hat; rw [← Ny200.out] at ho; have n0_ := Aside0.mk (blk_grown (g := gb166) (o := .cells #[.int .i64 a0_0, .slice A0_1 l0_1.length c0_1, .slice A0_2 l0_2.length c0_2, .slice A0_3 l0_3.length c0_3] 52 (0, 0)) (by (with_reducible repeat (first | refine bF ?_ _ | refine bG ?_ | refine bE ?_ _)); exact BK166.out) hg (Kd.R_ne HO_11.out BK166.out (by decide))); have n1_ := Aside0.mk (blk_grown (g := gb167) (o := .cells #[.slice A3_0 l3_0.length c3_0] 44 (0, 0)) (by (with_reducible repeat (first | refine bF ?_ _ | refine bG ?_ | refine bE ?_ _)); exact BK167.out) hg (Kd.R_ne HO_11.out BK167.out (by decide))); have n2_ := Aside0.mk (Kd.R_over' (by (with_reducible repeat (first | apply Kd.bR | apply Kd.bQ | apply Kd.bT)); exact HO193.out) (Kd.R_typed (by (with_reducible repeat (first | apply Kd.bR | apply Kd.bQ | apply Kd.bT)); exact HO_11.out)) (by decide) hg); have n3_ := Aside0.mk (blk_grown (g := gb195) (o := .cells #[.slice Ao84 t191.length co84] 44 (0, 0)) (by (with_reducible repeat (first | refine bF ?_ _ | refine bG ?_ | refine bE ?_ _)); exact BK195.out) hg (Kd.R_ne HO_11.out BK195.out (by decide))); have n4_ := Aside0.mk (Kd.R_after (ok := (fun _ => True)) (by (with_reducible repeat (first | apply Kd.bR | apply Kd.bQ | apply Kd.bT)); exact HO198.out) hg hat); have n5_ := Aside0.mk (hb); have n6_ := Aside0.mk (ho); clear BK166; clear BK167; clear HO193; clear BK195; clear HO198; clear HB; clear HO_11; have BK166 := n0_; have BK167 := n1_; have HO193 := n2_; have BK195 := n3_; have HO198 := n4_; have HB := n5_; have HO202 := n6_; clear n0_ n1_ n2_ n3_ n4_ n5_ n6_; clear ho hb hg hat))
             go_ret2
             exact ⟨_, by first | rfl | (simp [errW_none, errW_some] <;> rfl) | (simp [*, errW_none, errW_some] <;> rfl), by (with_reducible repeat (first | apply Kd.bR | apply Kd.bQ | apply Kd.bT)); exact Kd.R_mono HO202.out (fun _ hk => trivial), by repeat (first | (with_reducible first | exact HB.out | apply bC | apply bA | apply bB | refine bD ?_ GE166.out | refine bD ?_ GE167.out | refine bD ?_ GE195.out) | exact HB.out)⟩
            ·rw [if_neg c79] at H
             exact absurd H (by simp)
           ·rw [if_neg c78] at H
            have c78b0 : (t199 == 0) = false := beq_eq_false_iff_ne.mpr c78
            have c78b1 : (t199 != 0) = true := bne_iff_ne.mpr c78
            simp only [Option.some.injEq, Prod.mk.injEq] at H
            obtain ⟨rfl, rfl⟩ := H
            have hnb92 := NB166_167.out
            have hnc92 := NB167_166.out
            have hcz93_0 : wr.cell? ⟨gb166, 0, none⟩ = some (.int .i64 a0_0) := (bH BK166.out 0).trans rfl
            have hcz93_1 : wr.cell? ⟨gb166, 1, none⟩ = some (.slice A0_1 l0_1.length c0_1) := (bH BK166.out 1).trans rfl
            have hcz93_2 : wr.cell? ⟨gb166, 2, none⟩ = some (.slice A0_2 l0_2.length c0_2) := (bH BK166.out 2).trans rfl
            have hcz93_3 : wr.cell? ⟨gb166, 3, none⟩ = some (.slice A0_3 l0_3.length c0_3) := (bH BK166.out 3).trans rfl
            have hfz93_0 := bJ BK166.out 0
            have hfz93_1 := bJ BK166.out 1
            have hfz93_2 := bJ BK166.out 2
            have hfz93_3 := bJ BK166.out 3
            go_wp2_with (first | ((with_reducible refine cB (f := 91) rfl ?_); refine goesL_ (some 102) rfl rfl Try.func91 (by kernel_rfl) rfl #[.agg #[.slice A0_3 l0_3.length c0_3], .slice A1 l1.length c1] rfl (by (try simp only [List.map_toArray, List.map_cons, List.map_nil]); first | done | rfl | (simp only [List.length_drop, List.length_take]; rfl)) ?_; (with_reducible refine (row_Subst.calls _ _ l0_3 _ _ l1 t191 t194 _ ?side1 ?side2 ?side3 ?side4 A76.out).mono ?_); (case side1 => repeat (first | exact (Kd.bW HR0_3.out HB.out) | (with_reducible refine Kd.bV ?_ _) | (with_reducible refine Kd.bU ?_ _) | (with_reducible refine Kd.cA ?_))); (case side2 => exact HC0_3.out); (case side3 => repeat (first | exact (Kd.bW HR1.out HB.out) | (with_reducible refine Kd.bV ?_ _) | (with_reducible refine Kd.bU ?_ _) | (with_reducible refine Kd.cA ?_))); (case side4 => exact HC1.out); rintro e w94 ⟨v192, rfl, ho0, hb⟩; refine ⟨_, rfl, ?_⟩; have n0_ := Aside0.mk (Kd.cC (by (with_reducible repeat (first | apply Kd.bR | apply Kd.bQ | apply Kd.bT)); exact HO_11.out) hb); have n1_ := Aside0.mk (Kd.R_lower ho0 (bK (by repeat (first | (with_reducible first | exact HB.out | apply bC | apply bA | apply bB | refine bD ?_ GE166.out | refine bD ?_ GE167.out) | exact HB.out)))); have n2_ := Aside0.mk (bL (g := gb166) (o := .cells #[.int .i64 a0_0, .slice A0_1 l0_1.length c0_1, .slice A0_2 l0_2.length c0_2, .slice A0_3 l0_3.length c0_3] 52 (0, 0)) (by (with_reducible repeat (first | refine bF ?_ _ | refine bG ?_ | refine bE ?_ _)); exact BK166.out) hb); have n3_ := Aside0.mk (bL (g := gb167) (o := .cells #[.slice A3_0 l3_0.length c3_0] 44 (0, 0)) (by (with_reducible repeat (first | refine bF ?_ _ | refine bG ?_ | refine bE ?_ _)); exact BK167.out) hb); have n4_ := Aside0.mk (bM (by repeat (first | (with_reducible first | exact HB.out | apply bC | apply bA | apply bB | refine bD ?_ GE166.out | refine bD ?_ GE167.out) | exact HB.out)) hb); clear HO_11; clear BK166; clear BK167; clear HB; have HO_11 := n0_; have HO193 := n1_; have BK166 := n2_; have BK167 := n3_; have HB := n4_; clear n0_ n1_ n2_ n3_ n4_; (try clear hb); (try clear hb2); (try clear hk); (try clear hi); (try clear ho0)) | ((with_reducible refine bZ (N := 20) rfl ?_); (try (refine cE (by rfl) ?_; dsimp only)); refine bY ?hg (N := 20) ?hd (cs := #[.slice none 0 0]) (t := 44) ?hr ?_; (case hd => rfl); (case hg => rfl); (case hr => first | (go_simp; done) | (go_simp; rfl)); intro gb195 hg w95 hbox hb; have n0_ := Aside0.mk (Kd.cC (by (with_reducible repeat (first | apply Kd.bR | apply Kd.bQ | apply Kd.bT)); exact HO_11.out) hb); have n1_ := Aside0.mk (Kd.cC (by (with_reducible repeat (first | apply Kd.bR | apply Kd.bQ | apply Kd.bT)); exact HO193.out) hb); have n2_ := Aside0.mk (bL (g := gb166) (o := .cells #[.int .i64 a0_0, .slice A0_1 l0_1.length c0_1, .slice A0_2 l0_2.length c0_2, .slice A0_3 l0_3.length c0_3] 52 (0, 0)) (by (with_reducible repeat (first | refine bF ?_ _ | refine bG ?_ | refine bE ?_ _)); exact BK166.out) hb); have n3_ := Aside0.mk (bL (g := gb167) (o := .cells #[.slice A3_0 l3_0.length c3_0] 44 (0, 0)) (by (with_reducible repeat (first | refine bF ?_ _ | refine bG ?_ | refine bE ?_ _)); exact BK167.out) hb); have n4_ := Aside0.mk (bM (by repeat (first | (with_reducible first | exact HB.out | apply bC | apply bA | apply bB | refine bD ?_ GE166.out | refine bD ?_ GE167.out) | exact HB.out)) hb); have n5_ := Aside0.mk (hbox); have n6_ := Aside0.mk ((by rw [hg]; exact (bK (by repeat (first | (with_reducible first | exact HB.out | apply bC | apply bA | apply bB | refine bD ?_ GE166.out | refine bD ?_ GE167.out) | exact HB.out))) : w.heap.size ≤ gb195)); have n7_ := Aside0.mk ((by rw [hg]; exact (bK (by repeat (first | (with_reducible first | exact HB.out | apply bC | apply bA | apply bB | refine bD ?_ GE166.out | refine bD ?_ GE167.out) | exact HB.out))) : w.heap.size ≤ gb195)); have n8_ := Aside0.mk ((by rw [hg]; exact Nat.ne_of_lt (cD (g := gb166) (o := .cells #[.int .i64 a0_0, .slice A0_1 l0_1.length c0_1, .slice A0_2 l0_2.length c0_2, .slice A0_3 l0_3.length c0_3] 52 (0, 0)) (by (with_reducible repeat (first | refine bF ?_ _ | refine bG ?_ | refine bE ?_ _)); exact BK166.out)) : gb166 ≠ gb195)); have n9_ := Aside0.mk ((by rw [hg]; exact Nat.ne_of_gt (cD (g := gb166) (o := .cells #[.int .i64 a0_0, .slice A0_1 l0_1.length c0_1, .slice A0_2 l0_2.length c0_2, .slice A0_3 l0_3.length c0_3] 52 (0, 0)) (by (with_reducible repeat (first | refine bF ?_ _ | refine bG ?_ | refine bE ?_ _)); exact BK166.out)) : gb195 ≠ gb166)); have n10_ := Aside0.mk ((by rw [hg]; exact Nat.ne_of_lt (cD (g := gb167) (o := .cells #[.slice A3_0 l3_0.length c3_0] 44 (0, 0)) (by (with_reducible repeat (first | refine bF ?_ _ | refine bG ?_ | refine bE ?_ _)); exact BK167.out)) : gb167 ≠ gb195)); have n11_ := Aside0.mk ((by rw [hg]; exact Nat.ne_of_gt (cD (g := gb167) (o := .cells #[.slice A3_0 l3_0.length c3_0] 44 (0, 0)) (by (with_reducible repeat (first | refine bF ?_ _ | refine bG ?_ | refine bE ?_ _)); exact BK167.out)) : gb195 ≠ gb167)); clear HO_11; clear HO193; clear BK166; clear BK167; clear HB; have HO_11 := n0_; have HO193 := n1_; have BK166 := n2_; have BK167 := n3_; have HB := n4_; have BK195 := n5_; have GW195 := n6_; have GE195 := n7_; have NB166_195 := n8_; have NB195_166 := n9_; have NB167_195 := n10_; have NB195_167 := n11_; clear n0_ n1_ n2_ n3_ n4_ n5_ n6_ n7_ n8_ n9_ n10_ n11_; clear hb hbox hg; obtain ⟨Ao96, co96, eo96⟩ := Kd.R_slice HO193.out; subst eo96; have hnb97 := NB195_166.out; have hnc97 := NB166_195.out; have hnb98 := NB195_167.out; have hnc98 := NB167_195.out; have hcz99_0 : w95.cell? ⟨gb195, 0, none⟩ = some (.slice none 0 0) := (bH BK195.out 0).trans rfl; have hfz99_0 := bJ BK195.out 0; have hcz100_0 : w95.cell? ⟨gb167, 0, none⟩ = some (.slice A3_0 l3_0.length c3_0) := (bH BK167.out 0).trans rfl; have hfz100_0 := bJ BK167.out 0) | ((with_reducible refine cB (f := 92) rfl ?_); refine goesL_ (some 108) rfl rfl Try.func92 (by kernel_rfl) rfl #[.agg #[.slice Ao96 t191.length co96], .agg #[.slice A3_0 l3_0.length c3_0], .int .i64 6, .int .i64 0] rfl (by (try simp only [List.map_toArray, List.map_cons, List.map_nil]); first | done | rfl | (simp only [List.length_drop, List.length_take]; rfl)) ?_; (with_reducible refine (relate_Flow.calls _ _ t191 _ _ l3_0 6 0 t196 t199 _ ?side1 ?side2 ?side3 ?side4 A77.out).mono ?_); (case side1 => refine (Kd.cF (e := 115) (base := w.heap.size) (ok := fun k_ => True) (n := t191.length) (c := co96) ?_).2.2; exact (by (with_reducible repeat (first | apply Kd.bR | apply Kd.bQ | apply Kd.bT)); exact (Kd.R_mono (Kd.R_far (p := ⟨gb195, 0, none⟩) (Kd.R_types HO193.out BK195.out (by decide)) (fun _ hk => hk.2) (.slice Ao96 t191.length co96)) (fun _ h_ => h_.1)))); (case side2 => exact (Kd.cF HO193.out).2.1); (case side3 => exact Kd.bW HR3_0.out (by repeat (first | (with_reducible first | exact HB.out | apply bC | apply bA | apply bB | refine bD ?_ GE166.out | refine bD ?_ GE167.out | refine bD ?_ GE195.out) | exact HB.out))); (case side4 => exact HC3_0.out); rintro e w101 ⟨v197, rfl, ho0, hb⟩; refine ⟨_, rfl, ?_⟩; have n0_ := Aside0.mk (Kd.R_elder' (by (with_reducible repeat (first | apply Kd.bR | apply Kd.bQ | apply Kd.bT)); exact (Kd.R_mono (Kd.R_far (p := ⟨gb195, 0, none⟩) (Kd.R_types HO_11.out BK195.out (by decide)) (fun _ hk => hk.2) (.slice Ao96 t191.length co96)) (fun _ h_ => h_.1))) (Kd.R_base ho0) hb); have n1_ := Aside0.mk (Kd.cC (by (with_reducible repeat (first | apply Kd.bR | apply Kd.bQ | apply Kd.bT)); exact (Kd.R_mono (Kd.R_far (p := ⟨gb195, 0, none⟩) (Kd.R_types HO193.out BK195.out (by decide)) (fun _ hk => hk.2) (.slice Ao96 t191.length co96)) (fun _ h_ => h_.1))) hb); have n2_ := Aside0.mk (Kd.R_lower (Kd.R_new' ho0 (Kd.R_lt (by (with_reducible repeat (first | apply Kd.bR | apply Kd.bQ | apply Kd.bT)); exact (Kd.R_mono (Kd.R_far (p := ⟨gb195, 0, none⟩) (Kd.R_types HO_11.out BK195.out (by decide)) (fun _ hk => hk.2) (.slice Ao96 t191.length co96)) (fun _ h_ => h_.1))))) (bK (by repeat (first | (with_reducible first | exact HB.out | apply bC | apply bA | apply bB | refine bD ?_ GE166.out | refine bD ?_ GE167.out | refine bD ?_ GE195.out) | exact HB.out)))); have n3_ := Aside0.mk (bL (g := gb166) (o := .cells #[.int .i64 a0_0, .slice A0_1 l0_1.length c0_1, .slice A0_2 l0_2.length c0_2, .slice A0_3 l0_3.length c0_3] 52 (0, 0)) (by (with_reducible repeat (first | refine bF ?_ _ | refine bG ?_ | refine bE ?_ _)); refine blk_far ?_ NB166_195.out _; (with_reducible repeat (first | refine bF ?_ _ | refine bG ?_ | refine bE ?_ _)); exact BK166.out) hb); have n4_ := Aside0.mk (bL (g := gb167) (o := .cells #[.slice A3_0 l3_0.length c3_0] 44 (0, 0)) (by (with_reducible repeat (first | refine bF ?_ _ | refine bG ?_ | refine bE ?_ _)); refine blk_far ?_ NB167_195.out _; (with_reducible repeat (first | refine bF ?_ _ | refine bG ?_ | refine bE ?_ _)); exact BK167.out) hb); have n5_ := Aside0.mk (bL (g := gb195) (o := .cells #[.slice Ao96 t191.length co96] 44 (0, 0)) (by (with_reducible repeat (first | refine bF ?_ _ | refine bG ?_ | refine bE ?_ _)); refine blk_put (cs := #[.slice none 0 0]) ?_ 0 _ rfl; (with_reducible repeat (first | refine bF ?_ _ | refine bG ?_ | refine bE ?_ _)); exact BK195.out) hb); have n6_ := Aside0.mk (bM (by repeat (first | (with_reducible first | exact HB.out | apply bC | apply bA | apply bB | refine bD ?_ GE166.out | refine bD ?_ GE167.out | refine bD ?_ GE195.out) | exact HB.out)) hb); clear HO_11; clear HO193; clear BK166; clear BK167; clear BK195; clear HB; have HO_11 := n0_; have HO193 := n1_; have HO198 := n2_; have BK166 := n3_; have BK167 := n4_; have BK195 := n5_; have HB := n6_; clear n0_ n1_ n2_ n3_ n4_ n5_ n6_; (try clear hb); (try clear hb2); (try clear hk); (try clear hi); (try clear ho0)))
            go_ret2
            exact ⟨_, by first | rfl | (simp [errW_none, errW_some] <;> rfl) | (simp [*, errW_none, errW_some] <;> rfl), by first | exact Kd.R_nil _ _ _ _ _ | exact Kd.N_nil _ _ _ _ _ | exact Kd.V_nil _ _ _ _ _ | exact Kd.Q_nil _ _ _ _ _ | exact Kd.S_nil _ _ _ _ _, by repeat (first | (with_reducible first | exact HB.out | apply bC | apply bA | apply bB | refine bD ?_ GE166.out | refine bD ?_ GE167.out | refine bD ?_ GE195.out) | exact HB.out)⟩
 ·rw [if_neg c6] at H
  have c6b0 : (t168 == 0) = false := beq_eq_false_iff_ne.mpr c6
  have c6b1 : (t168 != 0) = true := bne_iff_ne.mpr c6
  simp only [Option.some.injEq, Prod.mk.injEq] at H
  obtain ⟨rfl, rfl⟩ := H
  go_enter Try.func44, Try.ntmps44
  go_wp2_with (first | ((with_reducible refine bZ (N := 4) rfl ?_); (try (refine cE (by rfl) ?_; dsimp only)); refine bY ?hg (N := 4) ?hd (cs := #[.int .i64 a0_0, .slice A0_1 l0_1.length c0_1, .slice A0_2 l0_2.length c0_2, .slice A0_3 l0_3.length c0_3]) (t := 52) ?hr ?_; (case hd => rfl); (case hg => rfl); (case hr => first | (go_simp; done) | (go_simp; rfl)); intro gb166 hg w102 hbox hb; have n0_ := Aside0.mk (bM (by repeat (first | (with_reducible first | exact HB.out | apply bC | apply bA | apply bB) | exact HB.out)) hb); have n1_ := Aside0.mk (hbox); have n2_ := Aside0.mk ((by rw [hg]; exact (bK (by repeat (first | (with_reducible first | exact HB.out | apply bC | apply bA | apply bB) | exact HB.out))) : w.heap.size ≤ gb166)); have n3_ := Aside0.mk ((by rw [hg]; exact (bK (by repeat (first | (with_reducible first | exact HB.out | apply bC | apply bA | apply bB) | exact HB.out))) : w.heap.size ≤ gb166)); clear HB; have HB := n0_; have BK166 := n1_; have GW166 := n2_; have GE166 := n3_; clear n0_ n1_ n2_ n3_; clear hb hbox hg) | ((with_reducible refine bZ (N := 7) rfl ?_); (try (refine cE (by rfl) ?_; dsimp only)); refine bY ?hg (N := 7) ?hd (cs := #[.slice A3_0 l3_0.length c3_0]) (t := 44) ?hr ?_; (case hd => rfl); (case hg => rfl); (case hr => first | (go_simp; done) | (go_simp; rfl)); intro gb167 hg w103 hbox hb; have n0_ := Aside0.mk (bL (g := gb166) (o := .cells #[.int .i64 a0_0, .slice A0_1 l0_1.length c0_1, .slice A0_2 l0_2.length c0_2, .slice A0_3 l0_3.length c0_3] 52 (0, 0)) (by (with_reducible repeat (first | refine bF ?_ _ | refine bG ?_ | refine bE ?_ _)); exact BK166.out) hb); have n1_ := Aside0.mk (bM (by repeat (first | (with_reducible first | exact HB.out | apply bC | apply bA | apply bB | refine bD ?_ GE166.out) | exact HB.out)) hb); have n2_ := Aside0.mk (hbox); have n3_ := Aside0.mk ((by rw [hg]; exact (bK (by repeat (first | (with_reducible first | exact HB.out | apply bC | apply bA | apply bB | refine bD ?_ GE166.out) | exact HB.out))) : w.heap.size ≤ gb167)); have n4_ := Aside0.mk ((by rw [hg]; exact (bK (by repeat (first | (with_reducible first | exact HB.out | apply bC | apply bA | apply bB | refine bD ?_ GE166.out) | exact HB.out))) : w.heap.size ≤ gb167)); have n5_ := Aside0.mk ((by rw [hg]; exact Nat.ne_of_lt (cD (g := gb166) (o := .cells #[.int .i64 a0_0, .slice A0_1 l0_1.length c0_1, .slice A0_2 l0_2.length c0_2, .slice A0_3 l0_3.length c0_3] 52 (0, 0)) (by (with_reducible repeat (first | refine bF ?_ _ | refine bG ?_ | refine bE ?_ _)); exact BK166.out)) : gb166 ≠ gb167)); have n6_ := Aside0.mk ((by rw [hg]; exact Nat.ne_of_gt (cD (g := gb166) (o := .cells #[.int .i64 a0_0, .slice A0_1 l0_1.length c0_1, .slice A0_2 l0_2.length c0_2, .slice A0_3 l0_3.length c0_3] 52 (0, 0)) (by (with_reducible repeat (first | refine bF ?_ _ | refine bG ?_ | refine bE ?_ _)); exact BK166.out)) : gb167 ≠ gb166)); clear BK166; clear HB; have BK166 := n0_; have HB := n1_; have BK167 := n2_; have GW167 := n3_; have GE167 := n4_; have NB166_167 := n5_; have NB167_166 := n6_; clear n0_ n1_ n2_ n3_ n4_ n5_ n6_; clear hb hbox hg; have hnb104 := NB166_167.out; have hnc104 := NB167_166.out; have hcz105_0 : w103.cell? ⟨gb166, 0, none⟩ = some (.int .i64 a0_0) := (bH BK166.out 0).trans rfl; have hcz105_1 : w103.cell? ⟨gb166, 1, none⟩ = some (.slice A0_1 l0_1.length c0_1) := (bH BK166.out 1).trans rfl; have hcz105_2 : w103.cell? ⟨gb166, 2, none⟩ = some (.slice A0_2 l0_2.length c0_2) := (bH BK166.out 2).trans rfl; have hcz105_3 : w103.cell? ⟨gb166, 3, none⟩ = some (.slice A0_3 l0_3.length c0_3) := (bH BK166.out 3).trans rfl; have hfz105_0 := bJ BK166.out 0; have hfz105_1 := bJ BK166.out 1; have hfz105_2 := bJ BK166.out 2; have hfz105_3 := bJ BK166.out 3) | ((with_reducible refine cB (f := 46) rfl ?_); refine goesL_ (some 25) rfl rfl Try.func46 (by kernel_rfl) rfl #[.agg #[.int .i64 a0_0, .slice A0_1 l0_1.length c0_1, .slice A0_2 l0_2.length c0_2, .slice A0_3 l0_3.length c0_3]] rfl (by (try simp only [List.map_toArray, List.map_cons, List.map_nil]); first | done | rfl | (simp only [List.length_drop, List.length_take]; rfl)) ?_; (with_reducible refine (sig_Check.calls a0_0 _ _ l0_1 _ _ l0_2 _ _ l0_3 t168 _ ?side1 ?side2 ?side3 ?side4 ?side5 ?side6 A5.out).mono ?_); (case side1 => repeat (first | exact (Kd.bW HR0_1.out HB.out) | (with_reducible refine Kd.bV ?_ _) | (with_reducible refine Kd.bU ?_ _) | (with_reducible refine Kd.cA ?_))); (case side2 => exact HC0_1.out); (case side3 => repeat (first | exact (Kd.bW HR0_2.out HB.out) | (with_reducible refine Kd.bV ?_ _) | (with_reducible refine Kd.bU ?_ _) | (with_reducible refine Kd.cA ?_))); (case side4 => exact HC0_2.out); (case side5 => repeat (first | exact (Kd.bW HR0_3.out HB.out) | (with_reducible refine Kd.bV ?_ _) | (with_reducible refine Kd.bU ?_ _) | (with_reducible refine Kd.cA ?_))); (case side6 => exact HC0_3.out); rintro e w106 ⟨rfl, hb⟩; refine ⟨_, rfl, ?_⟩; have n0_ := Aside0.mk (bL (g := gb166) (o := .cells #[.int .i64 a0_0, .slice A0_1 l0_1.length c0_1, .slice A0_2 l0_2.length c0_2, .slice A0_3 l0_3.length c0_3] 52 (0, 0)) (by (with_reducible repeat (first | refine bF ?_ _ | refine bG ?_ | refine bE ?_ _)); exact BK166.out) hb); have n1_ := Aside0.mk (bL (g := gb167) (o := .cells #[.slice A3_0 l3_0.length c3_0] 44 (0, 0)) (by (with_reducible repeat (first | refine bF ?_ _ | refine bG ?_ | refine bE ?_ _)); exact BK167.out) hb); have n2_ := Aside0.mk (bM (by repeat (first | (with_reducible first | exact HB.out | apply bC | apply bA | apply bB | refine bD ?_ GE166.out | refine bD ?_ GE167.out) | exact HB.out)) hb); clear BK166; clear BK167; clear HB; have BK166 := n0_; have BK167 := n1_; have HB := n2_; clear n0_ n1_ n2_; (try clear hb); (try clear hb2); (try clear hk); (try clear hi)))
  go_ret2
  exact ⟨_, by first | rfl | (simp [errW_none, errW_some] <;> rfl) | (simp [*, errW_none, errW_some] <;> rfl), by first | exact Kd.R_nil _ _ _ _ _ | exact Kd.N_nil _ _ _ _ _ | exact Kd.V_nil _ _ _ _ _ | exact Kd.Q_nil _ _ _ _ _ | exact Kd.S_nil _ _ _ _ _, by repeat (first | (with_reducible first | exact HB.out | apply bC | apply bA | apply bB | refine bD ?_ GE166.out | refine bD ?_ GE167.out) | exact HB.out)⟩

end Go.Proofs.Ythhebinonpoddaa.GSigCalls
