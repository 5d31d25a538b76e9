/- Written for this claim by gp.py, a program of this session's, over the kit's print. Lean checks it. -/
import Derived.Test.YthhebinonpoddaaGStmtNeedsx0
import Derived.Test.YthhebinonpoddaaGStmtNeedsx9
import Derived.Test.YthhebinonpoddaaGStmtNeedsx10
namespace Go.Proofs.Ythhebinonpoddaa.GStmtNeeds
open Go.RowKit Go.Proofs.YthhebinonpoddaaW.PrintWords Go.Proofs.YthhebinonpoddaaW.PrintLast Go.Proofs.YthhebinonpoddaaW.PrintMore
attribute [local go_sem] max2_int min2_int max_two min_two max_three min_three max_four min_four   -- for this text's walks alone
set_option linter.unusedVariables false
set_option linter.unusedSimpArgs false

/-! ### easementref16_Again: function 90 -/
mutual
def easementref16_Again.j0 : Nat → Int → Bool → Bool → List (S115) → List (S115) → Option ((List (S128)) × Int)
 | 0, _, _, _, _, _ => none
 | k + 1, x2, x3, x28, x240000, x241000 => if x28 = true then (some (([] : List (S128)), 8)) else (easementref16_Again.l0 k x2 x3 1 x240000 x241000)
def easementref16_Again.l0 : Nat → Int → Bool → Int → List (S115) → List (S115) → Option ((List (S128)) × Int)
 | 0, _, _, _, _, _ => none
 | k + 1, x2, x3, x10, x240000, x241000 => if x10 < (x240000.length : Int) then (if x3 = true then (if 0 ≤ x10 then (if ((rd_T115 x240000 x10).f1 = true) then (easementref16_Again.l0 k x2 x3 (wrap64 (x10 + 1)) x240000 x241000) else (some (([] : List (S128)), 8))) else (none)) else (easementref16_Again.l0 k x2 x3 (wrap64 (x10 + 1)) x240000 x241000)) else (if 0 < (x240000.length : Int) then (if 0 < (x241000.length : Int) then (if 1 ≤ (x240000.length : Int) then (if 1 ≤ (x241000.length : Int) then ((easementref16_slots.f k (([(⟨(rd_T115 x240000 0).f0, x2, 3, 0, false⟩ : S128), (⟨x2, (rd_T115 x241000 0).f0, 2, 0, false⟩ : S128)] : List (S128))) (x240000.drop 1) (x241000.drop 1) 1 1).bind fun t257 => (some (t257, 0))) else (none)) else (none)) else (none)) else (none))
end
def easementref16_Again.f (k : Nat) (l0_0 : List (S115)) (l1_0 : List (S115)) (a2 : Int) (a3 : Bool) : Option ((List (S128)) × Int) := if (l0_0.length : Int) = 0 then (easementref16_Again.j0 k a2 a3 true l0_0 l1_0) else ((easementref15_Shape.f k l0_0 l1_0).bind fun t241 => (if t241 = true then (if 0 < (l0_0.length : Int) then (easementref16_Again.j0 k a2 a3 ((rd_T115 l0_0 0).f1) l0_0 l1_0) else (none)) else (easementref16_Again.j0 k a2 a3 true l0_0 l1_0)))
theorem easementref16_Again.mono_l : ∀ k, (∀ y0 y1 y2 y3 y4, LeO (easementref16_Again.j0 k y0 y1 y2 y3 y4) (easementref16_Again.j0 (k + 1) y0 y1 y2 y3 y4)) ∧ (∀ y0 y1 y2 y3 y4, LeO (easementref16_Again.l0 k y0 y1 y2 y3 y4) (easementref16_Again.l0 (k + 1) y0 y1 y2 y3 y4))
 | 0 => ⟨fun _ _ _ _ _ r h => by simp [easementref16_Again.j0] at h, fun _ _ _ _ _ r h => by simp [easementref16_Again.l0] at h⟩
 | k + 1 => by
  obtain ⟨ih0, ih1⟩ := easementref16_Again.mono_l k
  refine ⟨?_, ?_⟩
  ·intro y0 y1 y2 y3 y4
   unfold easementref16_Again.j0
   repeat' first
   | (with_reducible exact ih0 _ _ _ _ _)
   | (with_reducible exact ih1 _ _ _ _ _)
   | (with_reducible exact easementref15_Shape.mono _ _ _)
   | (with_reducible exact easementref16_slots.mono _ _ _ _ _ _)
   | (with_reducible exact LeO.refl _)
   | (with_reducible exact LeO.none _)
   | (with_reducible refine LeO.ite ?_ ?_)
   | (with_reducible refine LeO.bind ?_ (fun _ => ?_))
   | exact ih0 _ _ _ _ _
   | exact ih1 _ _ _ _ _
   | exact easementref15_Shape.mono _ _ _
   | exact easementref16_slots.mono _ _ _ _ _ _
   | exact LeO.none _
   | refine LeO.ite ?_ ?_
   | refine LeO.bind ?_ (fun _ => ?_)
  ·intro y0 y1 y2 y3 y4
   unfold easementref16_Again.l0
   repeat' first
   | (with_reducible exact ih0 _ _ _ _ _)
   | (with_reducible exact ih1 _ _ _ _ _)
   | (with_reducible exact easementref15_Shape.mono _ _ _)
   | (with_reducible exact easementref16_slots.mono _ _ _ _ _ _)
   | (with_reducible exact LeO.refl _)
   | (with_reducible exact LeO.none _)
   | (with_reducible refine LeO.ite ?_ ?_)
   | (with_reducible refine LeO.bind ?_ (fun _ => ?_))
   | exact ih0 _ _ _ _ _
   | exact ih1 _ _ _ _ _
   | exact easementref15_Shape.mono _ _ _
   | exact easementref16_slots.mono _ _ _ _ _ _
   | exact LeO.none _
   | refine LeO.ite ?_ ?_
   | refine LeO.bind ?_ (fun _ => ?_)
theorem easementref16_Again.mono : ∀ a0 a1 a2 a3 k, LeO (easementref16_Again.f k a0 a1 a2 a3) (easementref16_Again.f (k + 1) a0 a1 a2 a3) := by
 intro a0 a1 a2 a3 k
 obtain ⟨ih0, ih1⟩ := easementref16_Again.mono_l k
 unfold easementref16_Again.f
 repeat' first
   | (with_reducible exact ih0 _ _ _ _ _)
   | (with_reducible exact ih1 _ _ _ _ _)
   | (with_reducible exact easementref15_Shape.mono _ _ _)
   | (with_reducible exact easementref16_slots.mono _ _ _ _ _ _)
   | (with_reducible exact LeO.refl _)
   | (with_reducible exact LeO.none _)
   | (with_reducible refine LeO.ite ?_ ?_)
   | (with_reducible refine LeO.bind ?_ (fun _ => ?_))
   | exact ih0 _ _ _ _ _
   | exact ih1 _ _ _ _ _
   | exact easementref15_Shape.mono _ _ _
   | exact easementref16_slots.mono _ _ _ _ _ _
   | exact LeO.none _
   | refine LeO.ite ?_ ?_
   | refine LeO.bind ?_ (fun _ => ?_)
def easementref16_Again.T8 : Bool × List (List Nat × List Nat) := (true, [([], []), ([0], [0]), ([1], [1]), ([2], [2]), ([3], [3]), ([], []), ([4, 5], [4, 5]), ([], []), ([], []), ([8], [8]), ([9], [9]), ([10], [10]), ([11], [11]), ([7, 12], [7, 12]), ([6, 13], [6, 13]), ([14, 0, 1, 2, 3, 4, 5, 6, 7, 8, 9, 10, 11, 12, 13, 14], [14])])
def easementref16_Again.B8 : List Nat := [0, 1, 3, 7, 15, 0, 63, 0, 0, 256, 768, 1792, 3840, 8064, 16383, 32767]
theorem easementref16_Again.tab8 : rtab .any (opsOf Try.f90 8) = easementref16_Again.T8 := by kernel_rfl
theorem easementref16_Again.bits8 : waitsOk easementref16_Again.T8.2 easementref16_Again.B8 = true := by kernel_rfl
def easementref16_Again.T9 : Bool × List (List Nat × List Nat) := (true, [([], []), ([], []), ([1], [1]), ([2], [2]), ([], []), ([4], [4]), ([5], [5]), ([0, 3, 6], [0, 3, 6]), ([7, 7, 0, 1, 2, 3, 4, 5, 6, 7], [7]), ([8, 0, 1, 2, 3, 4, 5, 6, 7, 8], [])])
def easementref16_Again.B9 : List Nat := [0, 0, 2, 6, 0, 16, 48, 127, 255, 511]
theorem easementref16_Again.tab9 : rtab .any (opsOf Try.f90 9) = easementref16_Again.T9 := by kernel_rfl
theorem easementref16_Again.bits9 : waitsOk easementref16_Again.T9.2 easementref16_Again.B9 = true := by kernel_rfl
set_option maxHeartbeats 8000000 in
set_option maxRecDepth 100000 in
theorem easementref16_Again.calls (k : Nat) (A0_0 : Option Addr) (c0_0 : Nat) (l0_0 : List (S115)) (A1_0 : Option Addr) (c1_0 : Nat) (l1_0 : List (S115)) (a2 : Int) (a3 : Bool) (r1 : List (S128)) (r2 : Int) (w : World) (hr0_0 : Kd.C k115 w A0_0 l0_0.length l0_0) (hc0_0 : l0_0.length ≤ c0_0) (hr1_0 : Kd.C k115 w A1_0 l1_0.length l1_0) (hc1_0 : l1_0.length ≤ c1_0) (h : easementref16_Again.f k l0_0 l1_0 a2 a3 = some (r1, r2)) :
  Calls Try.prog 90 #[.agg #[.slice A0_0 l0_0.length c0_0], .agg #[.slice A1_0 l1_0.length c1_0], .int .i64 a2, .bool a3] w fun e w' => ∃ v0_ : Value, e = .returned (.tuple #[v0_, .int .i64 r2]) ∧ Kd.R k128 128 w' w.heap.size (fun _ => True) v0_ r1 ∧ Below w.heap.size w w' := by
 have hu44 := Try.underlying44
 have hu128 := Try.underlying128
 have HR0_0 := Aside0.mk hr0_0
 have HC0_0 := Aside0.mk hc0_0
 clear hr0_0 hc0_0
 have HR1_0 := Aside0.mk hr1_0
 have HC1_0 := Aside0.mk hc1_0
 clear hr1_0 hc1_0
 have HB := Aside0.mk (Below.refl w.heap.size w)
 have H : (if (l0_0.length : Int) = 0 then (easementref16_Again.j0 k a2 a3 true l0_0 l1_0) else ((easementref15_Shape.f k l0_0 l1_0).bind fun t241 => (if t241 = true then (if 0 < (l0_0.length : Int) then (easementref16_Again.j0 k a2 a3 ((rd_T115 l0_0 0).f1) l0_0 l1_0) else (none)) else (easementref16_Again.j0 k a2 a3 true l0_0 l1_0)))) = some (r1, r2) := h
 clear h
 have HC5 := Aside0.mk H
 clear H
 go_enter Try.func90, Try.ntmps90
 go_upto_region 1 with (first | ((with_reducible refine bT (N := 4) rfl ?_); refine bS ?hg (N := 4) ?hd (cs := #[.slice A0_0 l0_0.length c0_0]) (t := 44) ?hr ?_; (case hd => rfl); (case hg => rfl); (case hr => first | (go_simp; done) | (go_simp; rfl)); intro gb239 hg w6 hbox hb; have n0_ := Aside0.mk (bP (by repeat (first | (with_reducible first | exact HB.out | apply bE | apply bA | apply bD) | exact HB.out)) hb); have n1_ := Aside0.mk (hbox); have n2_ := Aside0.mk ((by rw [hg]; exact (bK (by repeat (first | (with_reducible first | exact HB.out | apply bE | apply bA | apply bD) | exact HB.out))) : w.heap.size ≤ gb239)); have n3_ := Aside0.mk ((by rw [hg]; exact (bK (by repeat (first | (with_reducible first | exact HB.out | apply bE | apply bA | apply bD) | exact HB.out))) : w.heap.size ≤ gb239)); clear HB; have HB := n0_; have BK239 := n1_; have GW239 := n2_; have GE239 := n3_; clear n0_ n1_ n2_ n3_; clear hb hbox hg) | ((with_reducible refine bT (N := 5) rfl ?_); refine bS ?hg (N := 5) ?hd (cs := #[.slice A1_0 l1_0.length c1_0]) (t := 44) ?hr ?_; (case hd => rfl); (case hg => rfl); (case hr => first | (go_simp; done) | (go_simp; rfl)); intro gb240 hg w7 hbox hb; have n0_ := Aside0.mk (bU (g := gb239) (o := .cells #[.slice A0_0 l0_0.length c0_0] 44 (0, 0)) (by (with_reducible repeat (first | refine bG ?_ _ | refine bH ?_ | refine bF ?_ _)); exact BK239.out) hb); have n1_ := Aside0.mk (bP (by repeat (first | (with_reducible first | exact HB.out | apply bE | apply bA | apply bD | refine bJ ?_ GE239.out) | exact HB.out)) hb); have n2_ := Aside0.mk (hbox); have n3_ := Aside0.mk ((by rw [hg]; exact (bK (by repeat (first | (with_reducible first | exact HB.out | apply bE | apply bA | apply bD | refine bJ ?_ GE239.out) | exact HB.out))) : w.heap.size ≤ gb240)); have n4_ := Aside0.mk ((by rw [hg]; exact (bK (by repeat (first | (with_reducible first | exact HB.out | apply bE | apply bA | apply bD | refine bJ ?_ GE239.out) | exact HB.out))) : w.heap.size ≤ gb240)); have n5_ := Aside0.mk ((by rw [hg]; exact Nat.ne_of_lt (blk_lt (g := gb239) (o := .cells #[.slice A0_0 l0_0.length c0_0] 44 (0, 0)) (by (with_reducible repeat (first | refine bG ?_ _ | refine bH ?_ | refine bF ?_ _)); exact BK239.out)) : gb239 ≠ gb240)); have n6_ := Aside0.mk ((by rw [hg]; exact Nat.ne_of_gt (blk_lt (g := gb239) (o := .cells #[.slice A0_0 l0_0.length c0_0] 44 (0, 0)) (by (with_reducible repeat (first | refine bG ?_ _ | refine bH ?_ | refine bF ?_ _)); exact BK239.out)) : gb240 ≠ gb239)); clear BK239; clear HB; have BK239 := n0_; have HB := n1_; have BK240 := n2_; have GW240 := n3_; have GE240 := n4_; have NB239_240 := n5_; have NB240_239 := n6_; clear n0_ n1_ n2_ n3_ n4_ n5_ n6_; clear hb hbox hg))
 (try simp only [Act.put, sZ1, sZ2, sZ3])
 go_cut [28] (fun v28 wc => ∃ (kq : Nat) (x28_4 : Bool), v28 = .bool x28_4 ∧ Aside0 (easementref16_Again.j0 kq a2 a3 x28_4 l0_0 l1_0 = some (r1, r2)) ∧ Aside0 (kq ≤ k) ∧ Aside0 (wc.heap[gb239]? = some (.cells #[(.slice A0_0 l0_0.length c0_0)] 44 (0, 0))) ∧ Aside0 (wc.heap[gb240]? = some (.cells #[(.slice A1_0 l1_0.length c1_0)] 44 (0, 0))) ∧ Aside0 (Below w.heap.size w wc))
 case first =>
  have H := HC5.out
  clear HC5
  by_cases c8 : (l0_0.length : Int) = 0
  ·rw [if_pos c8] at H
   have c8b0 : ((l0_0.length : Int) == 0) = true := beq_iff_eq.mpr c8
   have c8b1 : ((l0_0.length : Int) != 0) = false := bne_eq_false_iff_eq.mpr c8
   clear c8
   (first | rw [c8b0] | (simp only [bL, bM]; rw [c8b0]) | skip)
   have H' := Aside0.mk H
   clear H
   have hnb9 := NB239_240.out
   have hnc9 := NB240_239.out
   have hcz10_0 : w7.cell? ⟨gb239, 0, none⟩ = some (.slice A0_0 l0_0.length c0_0) := (bC BK239.out 0).trans rfl
   have hfz10_0 := bB BK239.out 0
   go_wp2
   go_meet
   case rel => exact ⟨_, (true), (by first | rfl | (simp; done) | (simp [*]; done)), H', ⟨by first | omega | exact Nat.le_refl _⟩, ⟨by (with_reducible repeat (first | refine bG ?_ _ | refine bH ?_ | refine bF ?_ _)); exact BK239.out⟩, ⟨by (with_reducible repeat (first | refine bG ?_ _ | refine bH ?_ | refine bF ?_ _)); exact BK240.out⟩, ⟨by repeat (first | (with_reducible first | exact HB.out | apply bE | apply bA | apply bD | refine bJ ?_ GE239.out | refine bJ ?_ GE240.out) | exact HB.out)⟩⟩
  ·rw [if_neg c8] at H
   have c8b0 : ((l0_0.length : Int) == 0) = false := beq_eq_false_iff_ne.mpr c8
   have c8b1 : ((l0_0.length : Int) != 0) = true := bne_iff_ne.mpr c8
   have c8b2 : ¬ (l0_0 = []) := fun h_ => c8 (by rw [h_]; rfl)
   (first | rw [c8b0] | (simp only [bL, bM]; rw [c8b0]) | skip)
   replace H := Option.bind_eq_some_iff.mp H
   obtain ⟨t241, A110, H⟩ := H
   replace H : (if t241 = true then (if 0 < (l0_0.length : Int) then (easementref16_Again.j0 k a2 a3 ((rd_T115 l0_0 0).f1) l0_0 l1_0) else (none)) else (easementref16_Again.j0 k a2 a3 true l0_0 l1_0)) = some (r1, r2) := H
   have A11 := Aside0.mk A110
   clear A110
   by_cases c12 : t241 = true
   ·subst c12
    have H1 : (if 0 < (l0_0.length : Int) then (easementref16_Again.j0 k a2 a3 ((rd_T115 l0_0 0).f1) l0_0 l1_0) else (none)) = some (r1, r2) := by rw [if_pos rfl] at H; exact H
    clear H
    have H := H1
    clear H1
    by_cases c13 : 0 < (l0_0.length : Int)
    ·rw [if_pos c13] at H
     have c13b0 : decide (0 < (l0_0.length : Int)) = true := decide_eq_true c13
     have c13b1 : decide (0 < l0_0.length) = true := decide_eq_true (by omega)
     clear c13
     have H' := Aside0.mk H
     clear H
     have hnb14 := NB239_240.out
     have hnc14 := NB240_239.out
     have hcz15_0 : w7.cell? ⟨gb239, 0, none⟩ = some (.slice A0_0 l0_0.length c0_0) := (bC BK239.out 0).trans rfl
     have hfz15_0 := bB BK239.out 0
     have hcz16_0 : w7.cell? ⟨gb240, 0, none⟩ = some (.slice A1_0 l1_0.length c1_0) := (bC BK240.out 0).trans rfl
     have hfz16_0 := bB BK240.out 0
     go_wp2_with (first | (go_at_call 85; (with_reducible refine (easementref15_Shape.calls k _ _ l0_0 _ _ l1_0 true _ ?side1 ?side2 ?side3 ?side4 A11.out).mono ?_); (case side1 => repeat (first | exact (Kd.bZ HR0_0.out HB.out) | (with_reducible refine Kd.C_alloc ?_ _) | (with_reducible refine Kd.C_drewN ?_ _) | (with_reducible refine Kd.C_drew ?_))); (case side2 => exact HC0_0.out); (case side3 => repeat (first | exact (Kd.bZ HR1_0.out HB.out) | (with_reducible refine Kd.C_alloc ?_ _) | (with_reducible refine Kd.C_drewN ?_ _) | (with_reducible refine Kd.C_drew ?_))); (case side4 => exact HC1_0.out); rintro e w17 ⟨rfl, hb⟩; have n0_ := Aside0.mk (bU (g := gb239) (o := .cells #[.slice A0_0 l0_0.length c0_0] 44 (0, 0)) (by (with_reducible repeat (first | refine bG ?_ _ | refine bH ?_ | refine bF ?_ _)); exact BK239.out) hb); have n1_ := Aside0.mk (bU (g := gb240) (o := .cells #[.slice A1_0 l1_0.length c1_0] 44 (0, 0)) (by (with_reducible repeat (first | refine bG ?_ _ | refine bH ?_ | refine bF ?_ _)); exact BK240.out) hb); have n2_ := Aside0.mk (bP (by repeat (first | (with_reducible first | exact HB.out | apply bE | apply bA | apply bD | refine bJ ?_ GE239.out | refine bJ ?_ GE240.out) | exact HB.out)) hb); clear BK239; clear BK240; clear HB; have BK239 := n0_; have BK240 := n1_; have HB := n2_; clear n0_ n1_ n2_; (try clear hb); (try clear hb2); (try clear hk); (try clear hi); have hcz18_0 : w17.cell? ⟨gb239, 0, none⟩ = some (.slice A0_0 l0_0.length c0_0) := (bC BK239.out 0).trans rfl; have hfz18_0 := bB BK239.out 0; have p242 : 0 ≤ (0 : Int) := (by omega); have q242 : 0 < (l0_0.length : Int) := of_decide_eq_true (by first | (with_reducible assumption) | assumption); obtain ⟨ad242, e242, hx242_0, hx242_1⟩ := at_T115 HR0_0.out 0 p242 q242; cases e242; have qi242 : (0 < l0_0.length) = True := eq_true (by omega); (try rw [show ((0 : Int)).toNat = 0 from rfl] at hx242_0); (try rw [show 0 * 2 = 0 from rfl] at hx242_0); (try rw [Addr.add_zero'] at hx242_0); (try rw [show ((0 : Int)).toNat = 0 from rfl] at hx242_1); (try rw [show 0 * 2 = 0 from rfl] at hx242_1); (try rw [Addr.add_zero'] at hx242_1); replace hx242_0 := (HB.out.cell (World.block_lt_of_cell? w _ hx242_0)).trans hx242_0; replace hx242_1 := (HB.out.cell (World.block_lt_of_cell? w _ hx242_1)).trans hx242_1; replace p242 := eq_true p242; replace q242 := eq_true q242))
     go_meet
     case rel => exact ⟨_, ((rd_T115 l0_0 0).f1), (by first | rfl | (simp; done) | (simp [*]; done)), H', ⟨by first | omega | exact Nat.le_refl _⟩, ⟨by (with_reducible repeat (first | refine bG ?_ _ | refine bH ?_ | refine bF ?_ _)); exact BK239.out⟩, ⟨by (with_reducible repeat (first | refine bG ?_ _ | refine bH ?_ | refine bF ?_ _)); exact BK240.out⟩, ⟨by repeat (first | (with_reducible first | exact HB.out | apply bE | apply bA | apply bD | refine bJ ?_ GE239.out | refine bJ ?_ GE240.out) | exact HB.out)⟩⟩
    ·rw [if_neg c13] at H
     exact absurd H (by simp)
   ·replace c12 := Bool.eq_false_iff.mpr c12
    subst c12
    have H1 : (easementref16_Again.j0 k a2 a3 true l0_0 l1_0) = some (r1, r2) := by rw [if_neg (show ¬ (false = true) by decide)] at H; exact H
    clear H
    have H := H1
    clear H1
    have H' := Aside0.mk H
    clear H
    have hnb19 := NB239_240.out
    have hnc19 := NB240_239.out
    have hcz20_0 : w7.cell? ⟨gb239, 0, none⟩ = some (.slice A0_0 l0_0.length c0_0) := (bC BK239.out 0).trans rfl
    have hfz20_0 := bB BK239.out 0
    have hcz21_0 : w7.cell? ⟨gb240, 0, none⟩ = some (.slice A1_0 l1_0.length c1_0) := (bC BK240.out 0).trans rfl
    have hfz21_0 := bB BK240.out 0
    go_wp2_with (first | (go_at_call 85; (with_reducible refine (easementref15_Shape.calls k _ _ l0_0 _ _ l1_0 false _ ?side1 ?side2 ?side3 ?side4 A11.out).mono ?_); (case side1 => repeat (first | exact (Kd.bZ HR0_0.out HB.out) | (with_reducible refine Kd.C_alloc ?_ _) | (with_reducible refine Kd.C_drewN ?_ _) | (with_reducible refine Kd.C_drew ?_))); (case side2 => exact HC0_0.out); (case side3 => repeat (first | exact (Kd.bZ HR1_0.out HB.out) | (with_reducible refine Kd.C_alloc ?_ _) | (with_reducible refine Kd.C_drewN ?_ _) | (with_reducible refine Kd.C_drew ?_))); (case side4 => exact HC1_0.out); rintro e w22 ⟨rfl, hb⟩; have n0_ := Aside0.mk (bU (g := gb239) (o := .cells #[.slice A0_0 l0_0.length c0_0] 44 (0, 0)) (by (with_reducible repeat (first | refine bG ?_ _ | refine bH ?_ | refine bF ?_ _)); exact BK239.out) hb); have n1_ := Aside0.mk (bU (g := gb240) (o := .cells #[.slice A1_0 l1_0.length c1_0] 44 (0, 0)) (by (with_reducible repeat (first | refine bG ?_ _ | refine bH ?_ | refine bF ?_ _)); exact BK240.out) hb); have n2_ := Aside0.mk (bP (by repeat (first | (with_reducible first | exact HB.out | apply bE | apply bA | apply bD | refine bJ ?_ GE239.out | refine bJ ?_ GE240.out) | exact HB.out)) hb); clear BK239; clear BK240; clear HB; have BK239 := n0_; have BK240 := n1_; have HB := n2_; clear n0_ n1_ n2_; (try clear hb); (try clear hb2); (try clear hk); (try clear hi)))
    go_meet
    case rel => exact ⟨_, (true), (by first | rfl | (simp; done) | (simp [*]; done)), H', ⟨by first | omega | exact Nat.le_refl _⟩, ⟨by (with_reducible repeat (first | refine bG ?_ _ | refine bH ?_ | refine bF ?_ _)); exact BK239.out⟩, ⟨by (with_reducible repeat (first | refine bG ?_ _ | refine bH ?_ | refine bF ?_ _)); exact BK240.out⟩, ⟨by repeat (first | (with_reducible first | exact HB.out | apply bE | apply bA | apply bD | refine bJ ?_ GE239.out | refine bJ ?_ GE240.out) | exact HB.out)⟩⟩
 case rest =>
  clear HC5
  try clear c1
  try clear p2
  try clear q2
  try clear hx2
  try clear qi2
  try clear c8
  try clear c8b0
  try clear c8b1
  try clear c8b2
  try clear c9
  try clear c12
  try clear c13
  try clear c13b0
  try clear c13b1
  try clear c14
  try clear c19
  try clear hcz10_0
  try clear hcz15_0
  try clear hcz16_0
  try clear hcz18_0
  try clear hcz20_0
  try clear hcz21_0
  try clear hfz10_0
  try clear hfz15_0
  try clear hfz16_0
  try clear hfz18_0
  try clear hfz20_0
  try clear hfz21_0
  try clear hx242_0
  try clear hx242_1
  try clear p242
  try clear q242
  obtain ⟨kq, x28_4, rfl, HA, HJ4, BK239, BK240, HB⟩ := hcut
  cases kq with
  | zero => exact absurd HA.out (by simp [easementref16_Again.j0])
  | succ kj4 =>
   have H := HA.out
   clear HA
   simp only [easementref16_Again.j0] at H
   by_cases c23 : x28_4 = true
   ·subst c23
    have H1 : (some (([] : List (S128)), 8)) = some (r1, r2) := by rw [if_pos rfl] at H; exact H
    clear H
    have H := H1
    clear H1
    simp only [Option.some.injEq, Prod.mk.injEq] at H
    obtain ⟨rfl, rfl⟩ := H
    go_wp2
    go_ret2
    exact ⟨_, by first | rfl | (simp [errW_none, errW_some] <;> rfl) | (simp [*, errW_none, errW_some] <;> rfl), by first | exact Kd.R_nil _ _ _ _ _ | exact Kd.N_nil _ _ _ _ _ | exact Kd.V_nil _ _ _ _ _ | exact Kd.Q_nil _ _ _ _ _ | exact Kd.S_nil _ _ _ _ _, by repeat (first | (with_reducible first | exact HB.out | apply bE | apply bA | apply bD | refine bJ ?_ GE239.out | refine bJ ?_ GE240.out) | exact HB.out)⟩
   ·replace c23 := Bool.eq_false_iff.mpr c23
    subst c23
    have H1 : (easementref16_Again.l0 kj4 a2 a3 1 l0_0 l1_0) = some (r1, r2) := by rw [if_neg (show ¬ (false = true) by decide)] at H; exact H
    clear H
    have H := H1
    clear H1
    have H' := Aside0.mk H
    clear H
    go_wp2
    go_loopg [10] kj4 (fun kq v10 w' => ∃ (x10_2 : Int), v10 = .int .i64 x10_2 ∧ Aside0 (easementref16_Again.l0 kq a2 a3 x10_2 l0_0 l1_0 = some (r1, r2)) ∧ Aside0 (kq ≤ kj4) ∧ Aside0 (w'.heap[gb239]? = some (.cells #[(.slice A0_0 l0_0.length c0_0)] 44 (0, 0))) ∧ Aside0 (w'.heap[gb240]? = some (.cells #[(.slice A1_0 l1_0.length c1_0)] 44 (0, 0))) ∧ Aside0 (Below w.heap.size w w'))
    case atStart => exact ⟨(1), (by first | rfl | (simp; done) | (simp [*]; done)), H', ⟨Nat.le_refl _⟩, ⟨by (with_reducible repeat (first | refine bG ?_ _ | refine bH ?_ | refine bF ?_ _)); exact BK239.out⟩, ⟨by (with_reducible repeat (first | refine bG ?_ _ | refine bH ?_ | refine bF ?_ _)); exact BK240.out⟩, ⟨by repeat (first | (with_reducible first | exact HB.out | apply bE | apply bA | apply bD | refine bJ ?_ GE239.out | refine bJ ?_ GE240.out) | exact HB.out)⟩⟩
    case round =>
     clear H'
     try clear c1
     try clear c2
     try clear p2
     try clear q2
     try clear hx2
     try clear qi2
     try clear c8
     try clear c8b0
     try clear c8b1
     try clear c8b2
     try clear c9
     try clear c12
     try clear c13
     try clear c13b0
     try clear c13b1
     try clear c14
     try clear c19
     try clear c23
     try clear hcz10_0
     try clear hcz15_0
     try clear hcz16_0
     try clear hcz18_0
     try clear hcz20_0
     try clear hcz21_0
     try clear hfz10_0
     try clear hfz15_0
     try clear hfz16_0
     try clear hfz18_0
     try clear hfz20_0
     try clear hfz21_0
     try clear hx242_0
     try clear hx242_1
     try clear p2
     try clear p242
     try clear q2
     try clear q242
     obtain ⟨x10_2, rfl, HA, HK2, BK239, BK240, HB⟩ := hrel
     cases gk with
     | zero => exact absurd HA.out (by simp [easementref16_Again.l0])
     | succ k2 =>
      have H := HA.out
      clear HA
      simp only [easementref16_Again.l0] at H
      by_cases c24 : x10_2 < (l0_0.length : Int)
      ·rw [if_pos c24] at H
       have c24b0 : decide (x10_2 < (l0_0.length : Int)) = true := decide_eq_true c24
       clear c24
       by_cases c25 : a3 = true
       ·subst c25
        have H1 : (if 0 ≤ x10_2 then (if ((rd_T115 l0_0 x10_2).f1 = true) then (easementref16_Again.l0 k2 a2 true (wrap64 (x10_2 + 1)) l0_0 l1_0) else (some (([] : List (S128)), 8))) else (none)) = some (r1, r2) := by rw [if_pos rfl] at H; exact H
        clear H
        have H := H1
        clear H1
        by_cases c26 : 0 ≤ x10_2
        ·rw [if_pos c26] at H
         have c26b0 : decide (0 ≤ x10_2) = true := decide_eq_true c26
         clear c26
         obtain ⟨bq27, hbq27⟩ : ∃ b_ : Bool, b_ = ((rd_T115 l0_0 x10_2).f1) := ⟨_, rfl⟩
         replace H : (if (bq27 = true) then (easementref16_Again.l0 k2 a2 true (wrap64 (x10_2 + 1)) l0_0 l1_0) else (some (([] : List (S128)), 8))) = some (r1, r2) := by rw [← hbq27] at H; exact H
         have Nbq27 := Aside0.mk hbq27
         clear hbq27
         by_cases c28 : (bq27 = true)
         ·subst c28
          have H1 : (easementref16_Again.l0 k2 a2 true (wrap64 (x10_2 + 1)) l0_0 l1_0) = some (r1, r2) := by rw [if_pos rfl] at H; exact H
          clear H
          have H := H1
          clear H1
          have H' := Aside0.mk H
          clear H
          have hnb29 := NB239_240.out
          have hnc29 := NB240_239.out
          have hcz30_0 : wr.cell? ⟨gb239, 0, none⟩ = some (.slice A0_0 l0_0.length c0_0) := (bC BK239.out 0).trans rfl
          have hfz30_0 := bB BK239.out 0
          have p243 : 0 ≤ (x10_2 : Int) := of_decide_eq_true (by first | (with_reducible assumption) | assumption)
          have q243 : x10_2 < (l0_0.length : Int) := of_decide_eq_true (by first | (with_reducible assumption) | assumption)
          obtain ⟨ad243, e243, hx243_0, hx243_1⟩ := at_T115 HR0_0.out x10_2 p243 q243
          (try rw [← Nbq27.out] at hx243_1)
          (try rw [← Nbq27.out] at hw243_1)
          cases e243
          replace hx243_0 := (HB.out.cell (World.block_lt_of_cell? w _ hx243_0)).trans hx243_0
          replace hx243_1 := (HB.out.cell (World.block_lt_of_cell? w _ hx243_1)).trans hx243_1
          replace p243 := eq_true p243
          replace q243 := eq_true q243
          go_wp2
          go_roundg k2
          case measure => have := HJ4.out; have := HK2.out; omega
          case rel => exact ⟨(wrap64 (x10_2 + 1)), (by first | rfl | (simp; done) | (simp [*]; done)), H', ⟨by have := HJ4.out; have := HK2.out; omega⟩, ⟨by (with_reducible repeat (first | refine bG ?_ _ | refine bH ?_ | refine bF ?_ _)); exact BK239.out⟩, ⟨by (with_reducible repeat (first | refine bG ?_ _ | refine bH ?_ | refine bF ?_ _)); exact BK240.out⟩, ⟨by repeat (first | (with_reducible first | exact HB.out | apply bE | apply bA | apply bD | refine bJ ?_ GE239.out | refine bJ ?_ GE240.out) | exact HB.out)⟩⟩
         ·replace c28 := Bool.eq_false_iff.mpr c28
          subst c28
          have H1 : (some (([] : List (S128)), 8)) = some (r1, r2) := by rw [if_neg (show ¬ (false = true) by decide)] at H; exact H
          clear H
          have H := H1
          clear H1
          simp only [Option.some.injEq, Prod.mk.injEq] at H
          obtain ⟨rfl, rfl⟩ := H
          have hnb31 := NB239_240.out
          have hnc31 := NB240_239.out
          have hcz32_0 : wr.cell? ⟨gb239, 0, none⟩ = some (.slice A0_0 l0_0.length c0_0) := (bC BK239.out 0).trans rfl
          have hfz32_0 := bB BK239.out 0
          have p243 : 0 ≤ (x10_2 : Int) := of_decide_eq_true (by first | (with_reducible assumption) | assumption)
          have q243 : x10_2 < (l0_0.length : Int) := of_decide_eq_true (by first | (with_reducible assumption) | assumption)
          obtain ⟨ad243, e243, hx243_0, hx243_1⟩ := at_T115 HR0_0.out x10_2 p243 q243
          (try rw [← Nbq27.out] at hx243_1)
          (try rw [← Nbq27.out] at hw243_1)
          cases e243
          replace hx243_0 := (HB.out.cell (World.block_lt_of_cell? w _ hx243_0)).trans hx243_0
          replace hx243_1 := (HB.out.cell (World.block_lt_of_cell? w _ hx243_1)).trans hx243_1
          replace p243 := eq_true p243
          replace q243 := eq_true q243
          go_wp2
          go_ret2
          exact ⟨_, by first | rfl | (simp [errW_none, errW_some] <;> rfl) | (simp [*, errW_none, errW_some] <;> rfl), by first | exact Kd.R_nil _ _ _ _ _ | exact Kd.N_nil _ _ _ _ _ | exact Kd.V_nil _ _ _ _ _ | exact Kd.Q_nil _ _ _ _ _ | exact Kd.S_nil _ _ _ _ _, by repeat (first | (with_reducible first | exact HB.out | apply bE | apply bA | apply bD | refine bJ ?_ GE239.out | refine bJ ?_ GE240.out) | exact HB.out)⟩
        ·rw [if_neg c26] at H
         exact absurd H (by simp)
       ·replace c25 := Bool.eq_false_iff.mpr c25
        subst c25
        have H1 : (easementref16_Again.l0 k2 a2 false (wrap64 (x10_2 + 1)) l0_0 l1_0) = some (r1, r2) := by rw [if_neg (show ¬ (false = true) by decide)] at H; exact H
        clear H
        have H := H1
        clear H1
        have H' := Aside0.mk H
        clear H
        have hnb33 := NB239_240.out
        have hnc33 := NB240_239.out
        have hcz34_0 : wr.cell? ⟨gb239, 0, none⟩ = some (.slice A0_0 l0_0.length c0_0) := (bC BK239.out 0).trans rfl
        have hfz34_0 := bB BK239.out 0
        go_wp2
        go_roundg k2
        case measure => have := HJ4.out; have := HK2.out; omega
        case rel => exact ⟨(wrap64 (x10_2 + 1)), (by first | rfl | (simp; done) | (simp [*]; done)), H', ⟨by have := HJ4.out; have := HK2.out; omega⟩, ⟨by (with_reducible repeat (first | refine bG ?_ _ | refine bH ?_ | refine bF ?_ _)); exact BK239.out⟩, ⟨by (with_reducible repeat (first | refine bG ?_ _ | refine bH ?_ | refine bF ?_ _)); exact BK240.out⟩, ⟨by repeat (first | (with_reducible first | exact HB.out | apply bE | apply bA | apply bD | refine bJ ?_ GE239.out | refine bJ ?_ GE240.out) | exact HB.out)⟩⟩
      ·rw [if_neg c24] at H
       have c24b0 : decide (x10_2 < (l0_0.length : Int)) = false := decide_eq_false c24
       clear c24
       by_cases c35 : 0 < (l0_0.length : Int)
       ·rw [if_pos c35] at H
        have c35b0 : decide (0 < (l0_0.length : Int)) = true := decide_eq_true c35
        have c35b1 : decide (0 < l0_0.length) = true := decide_eq_true (by omega)
        clear c35
        by_cases c36 : 0 < (l1_0.length : Int)
        ·rw [if_pos c36] at H
         have c36b0 : decide (0 < (l1_0.length : Int)) = true := decide_eq_true c36
         have c36b1 : decide (0 < l1_0.length) = true := decide_eq_true (by omega)
         clear c36
         obtain ⟨y246, hy246⟩ : ∃ y_ : List (S128), y_ = (([(⟨(rd_T115 l0_0 0).f0, a2, 3, 0, false⟩ : S128), (⟨a2, (rd_T115 l1_0 0).f0, 2, 0, false⟩ : S128)] : List (S128))) := ⟨_, rfl⟩
         replace H : (if 1 ≤ (l0_0.length : Int) then (if 1 ≤ (l1_0.length : Int) then ((easementref16_slots.f k2 y246 (l0_0.drop 1) (l1_0.drop 1) 1 1).bind fun t257 => (some (t257, 0))) else (none)) else (none)) = some (r1, r2) := by first | (rw [hy246]; with_reducible exact H) | (have H2_ := (Option.bind_some _ _).symm.trans H; rw [hy246]; with_reducible exact H2_) | (have H2_ := (Option.bind_some _ _).symm.trans H; with_reducible exact H2_) | with_reducible exact H | (rw [hy246]; exact H) | exact H
         have Ny246 := Aside0.mk hy246
         clear hy246
         by_cases c37 : 1 ≤ (l0_0.length : Int)
         ·rw [if_pos c37] at H
          have c37b0 := eq_true c37
          have c37b1 : decide (1 ≤ (l0_0.length : Int)) = true := decide_eq_true c37
          clear c37
          obtain ⟨y249, hy249⟩ : ∃ y_ : List (S115), y_ = (l0_0.drop 1) := ⟨_, rfl⟩
          replace H : (if 1 ≤ (l1_0.length : Int) then ((easementref16_slots.f k2 y246 y249 (l1_0.drop 1) 1 1).bind fun t257 => (some (t257, 0))) else (none)) = some (r1, r2) := by first | (rw [hy249]; with_reducible exact H) | (have H2_ := (Option.bind_some _ _).symm.trans H; rw [hy249]; with_reducible exact H2_) | (have H2_ := (Option.bind_some _ _).symm.trans H; with_reducible exact H2_) | with_reducible exact H | (rw [hy249]; exact H) | exact H
          have Ny249 := Aside0.mk hy249
          clear hy249
          by_cases c38 : 1 ≤ (l1_0.length : Int)
          ·rw [if_pos c38] at H
           have c38b0 := eq_true c38
           have c38b1 : decide (1 ≤ (l1_0.length : Int)) = true := decide_eq_true c38
           clear c38
           obtain ⟨y253, hy253⟩ : ∃ y_ : List (S115), y_ = (l1_0.drop 1) := ⟨_, rfl⟩
           replace H : ((easementref16_slots.f k2 y246 y249 y253 1 1).bind fun t257 => (some (t257, 0))) = some (r1, r2) := by first | (rw [hy253]; with_reducible exact H) | (have H2_ := (Option.bind_some _ _).symm.trans H; rw [hy253]; with_reducible exact H2_) | (have H2_ := (Option.bind_some _ _).symm.trans H; with_reducible exact H2_) | with_reducible exact H | (rw [hy253]; exact H) | exact H
           have Ny253 := Aside0.mk hy253
           clear hy253
           replace H := Option.bind_eq_some_iff.mp H
           obtain ⟨t257, A390, H⟩ := H
           replace H : (some (t257, 0)) = some (r1, r2) := H
           have A39 := Aside0.mk A390
           clear A390
           simp only [Option.some.injEq, Prod.mk.injEq] at H
           obtain ⟨rfl, rfl⟩ := H
           have hnb40 := NB239_240.out
           have hnc40 := NB240_239.out
           have hcz41_0 : wr.cell? ⟨gb239, 0, none⟩ = some (.slice A0_0 l0_0.length c0_0) := (bC BK239.out 0).trans rfl
           have hfz41_0 := bB BK239.out 0
           try go_wp2
           have n0_ := Aside0.mk (bH BK239.out)
           have n1_ := Aside0.mk (bH BK240.out)
           have n2_ := Aside0.mk (bD HB.out)
           clear BK239
           clear BK240
           clear HB
           have BK239 := n0_
           have BK240 := n1_
           have HB := n2_
           clear n0_ n1_ n2_
           have p244 : 0 ≤ (0 : Int) := (by omega)
           have q244 : 0 < (l0_0.length : Int) := of_decide_eq_true (by first | (with_reducible assumption) | assumption)
           obtain ⟨ad244, e244, hx244_0, hx244_1⟩ := at_T115 HR0_0.out 0 p244 q244
           have hw244_1 := hx244_1
           (try rw [show ((0 : Int)).toNat = 0 from rfl] at hw244_1)
           (try rw [show 0 * 2 = 0 from rfl] at hw244_1)
           (try rw [Addr.add_zero'] at hw244_1)
           have hw244_0 := hx244_0
           (try rw [show ((0 : Int)).toNat = 0 from rfl] at hw244_0)
           (try rw [show 0 * 2 = 0 from rfl] at hw244_0)
           (try rw [Addr.add_zero'] at hw244_0)
           cases e244
           have qi244 : (0 < l0_0.length) = True := eq_true (by omega)
           (try rw [show ((0 : Int)).toNat = 0 from rfl] at hx244_0)
           (try rw [show 0 * 2 = 0 from rfl] at hx244_0)
           (try rw [Addr.add_zero'] at hx244_0)
           (try rw [show ((0 : Int)).toNat = 0 from rfl] at hx244_1)
           (try rw [show 0 * 2 = 0 from rfl] at hx244_1)
           (try rw [Addr.add_zero'] at hx244_1)
           replace hx244_0 := (HB.out.cell (World.block_lt_of_cell? w _ hx244_0)).trans hx244_0
           replace hx244_1 := (HB.out.cell (World.block_lt_of_cell? w _ hx244_1)).trans hx244_1
           replace p244 := eq_true p244
           replace q244 := eq_true q244
           have p245 : 0 ≤ (0 : Int) := (by omega)
           have q245 : 0 < (l1_0.length : Int) := of_decide_eq_true (by first | (with_reducible assumption) | assumption)
           obtain ⟨ad245, e245, hx245_0, hx245_1⟩ := at_T115 HR1_0.out 0 p245 q245
           have hw245_1 := hx245_1
           (try rw [show ((0 : Int)).toNat = 0 from rfl] at hw245_1)
           (try rw [show 0 * 2 = 0 from rfl] at hw245_1)
           (try rw [Addr.add_zero'] at hw245_1)
           have hw245_0 := hx245_0
           (try rw [show ((0 : Int)).toNat = 0 from rfl] at hw245_0)
           (try rw [show 0 * 2 = 0 from rfl] at hw245_0)
           (try rw [Addr.add_zero'] at hw245_0)
           cases e245
           have qi245 : (0 < l1_0.length) = True := eq_true (by omega)
           (try rw [show ((0 : Int)).toNat = 0 from rfl] at hx245_0)
           (try rw [show 0 * 2 = 0 from rfl] at hx245_0)
           (try rw [Addr.add_zero'] at hx245_0)
           (try rw [show ((0 : Int)).toNat = 0 from rfl] at hx245_1)
           (try rw [show 0 * 2 = 0 from rfl] at hx245_1)
           (try rw [Addr.add_zero'] at hx245_1)
           replace hx245_0 := (HB.out.cell (World.block_lt_of_cell? w _ hx245_0)).trans hx245_0
           replace hx245_1 := (HB.out.cell (World.block_lt_of_cell? w _ hx245_1)).trans hx245_1
           replace p245 := eq_true p245
           replace q245 := eq_true q245
           refine start_ (n := 16) (S := fun w' => w'.cell? ⟨gb239, 0, none⟩ = some (.slice (some ad244) l0_0.length c0_0) ∧ w'.cell? ⟨gb240, 0, none⟩ = some (.slice (some ad245) l1_0.length c1_0) ∧ w'.cell? ad244 = some (.int .i64 ((rd_T115 l0_0 0).f0)) ∧ w'.cell? ⟨ad244.block, ad244.off + 1, none⟩ = some (.bool ((rd_T115 l0_0 0).f1)) ∧ w'.cell? ad245 = some (.int .i64 ((rd_T115 l1_0 0).f0)) ∧ w'.cell? ⟨ad245.block, ad245.off + 1, none⟩ = some (.bool ((rd_T115 l1_0 0).f1))) (ds := []) #[false, false, false, false, false, false, false, false, false, false, false, false, false, false, false, false] (by kernel_rfl) rfl rfl ⟨(bC BK239.out 0).trans rfl, (bC BK240.out 0).trans rfl, ((HB.out.cell (World.block_lt_of_cell? w _ hw244_0)).trans hw244_0), ((HB.out.cell (World.block_lt_of_cell? w _ hw244_1)).trans hw244_1), ((HB.out.cell (World.block_lt_of_cell? w _ hw245_0)).trans hw245_0), ((HB.out.cell (World.block_lt_of_cell? w _ hw245_1)).trans hw245_1)⟩ (fun hHeld => ?_); refine with_tabW easementref16_Again.tab8 easementref16_Again.bits8 (fun HT_ HW_ => ?_)
           generalize wr.drew = w42 at BK239 BK240 HB hx244_0 hx244_1 hx245_0 hx245_1 hHeld ⊢
           refine bR (i := 0) (N := some 46) (v := ?_) (a' := ?_) #[true, false, false, false, false, false, false, false, false, false, false, false, false, false, false, false] rfl rfl (bQ HT_.out (by kernel_rfl)) (fun _ _ _ h => h) (Or.inl ⟨by rfl, ?_⟩) ?_ ?_
           rotate_left
           ·intro w'
            go_simp
            with_reducible rfl
           rotate_left
           ·simp only [Act.put, sZ1, sZ2, sZ3, bL, bM]
            rfl
           refine bR (i := 5) (N := some 51) (v := ?_) (a' := ?_) #[true, false, false, false, false, true, false, false, false, false, false, false, false, false, false, false] rfl rfl (bQ HT_.out (by kernel_rfl)) (fun _ _ _ h => h) (Or.inl ⟨by rfl, ?_⟩) ?_ ?_
           rotate_left
           ·intro w'
            go_simp
            with_reducible rfl
           rotate_left
           ·simp only [Act.put, sZ1, sZ2, sZ3, bL, bM]
            rfl
           refine bR (i := 7) (N := some 53) (v := ?_) (a' := ?_) #[true, false, false, false, false, true, false, true, false, false, false, false, false, false, false, false] rfl rfl (bQ HT_.out (by kernel_rfl)) (fun _ _ _ h => h) (Or.inl ⟨by rfl, ?_⟩) ?_ ?_
           rotate_left
           ·intro w'
            go_simp
            with_reducible rfl
           rotate_left
           ·simp only [Act.put, sZ1, sZ2, sZ3, bL, bM]
            rfl
           refine bR (i := 8) (N := some 54) (v := ?_) (a' := ?_) #[true, false, false, false, false, true, false, true, true, false, false, false, false, false, false, false] rfl rfl (bQ HT_.out (by kernel_rfl)) (fun _ _ _ h => h) (Or.inl ⟨by rfl, ?_⟩) ?_ ?_
           rotate_left
           ·intro w'
            go_simp
            with_reducible rfl
           rotate_left
           ·simp only [Act.put, sZ1, sZ2, sZ3, bL, bM]
            rfl
           refine take_ (i := 1) (N := some 47) (v := ?_) (a' := ?_) #[true, true, false, false, false, true, false, true, true, false, false, false, false, false, false, false] rfl rfl (bX HT_.out HW_.out (by kernel_rfl)) (fun _ _ _ h => h) (Or.inl ⟨by rfl, ?_⟩) hHeld ?_ ?_
           rotate_left
           ·rintro w' ⟨s0, s1, s2, s3, s4, s5⟩
            go_simp
            with_reducible rfl
           rotate_left
           ·simp only [Act.put, sZ1, sZ2, sZ3, bL, bM]
            rfl
           refine bR (i := 2) (N := some 48) (v := ?_) (a' := ?_) #[true, true, true, false, false, true, false, true, true, false, false, false, false, false, false, false] rfl rfl (bQ HT_.out (by kernel_rfl)) (fun _ _ _ h => h) (Or.inl ⟨by rfl, ?_⟩) ?_ ?_
           rotate_left
           ·intro w'
            go_simp
            with_reducible rfl
           rotate_left
           ·simp only [Act.put, sZ1, sZ2, sZ3, bL, bM]
            rfl
           refine bR (i := 3) (N := some 49) (v := ?_) (a' := ?_) #[true, true, true, true, false, true, false, true, true, false, false, false, false, false, false, false] rfl rfl (bQ HT_.out (by kernel_rfl)) (fun _ _ _ h => h) (Or.inl ⟨by rfl, ?_⟩) ?_ ?_
           rotate_left
           ·intro w'
            go_simp
            with_reducible rfl
           rotate_left
           ·simp only [Act.put, sZ1, sZ2, sZ3, bL, bM]
            rfl
           refine take_ (i := 4) (N := some 50) (v := ?_) (a' := ?_) #[true, true, true, true, true, true, false, true, true, false, false, false, false, false, false, false] rfl rfl (bX HT_.out HW_.out (by kernel_rfl)) (fun _ _ _ h => h) (Or.inl ⟨by rfl, ?_⟩) hHeld ?_ ?_
           rotate_left
           ·rintro w' ⟨s0, s1, s2, s3, s4, s5⟩
            go_simp
            with_reducible rfl
           rotate_left
           ·simp only [Act.put, sZ1, sZ2, sZ3, bL, bM]
            rfl
           refine bR (i := 6) (N := some 52) (v := ?_) (a' := ?_) #[true, true, true, true, true, true, true, true, true, false, false, false, false, false, false, false] rfl rfl (bQ HT_.out (by kernel_rfl)) (fun _ _ _ h => h) (Or.inl ⟨by rfl, ?_⟩) ?_ ?_
           rotate_left
           ·intro w'
            go_simp
            with_reducible rfl
           rotate_left
           ·simp only [Act.put, sZ1, sZ2, sZ3, bL, bM]
            rfl
           refine take_ (i := 9) (N := some 55) (v := ?_) (a' := ?_) #[true, true, true, true, true, true, true, true, true, true, false, false, false, false, false, false] rfl rfl (bX HT_.out HW_.out (by kernel_rfl)) (fun _ _ _ h => h) (Or.inl ⟨by rfl, ?_⟩) hHeld ?_ ?_
           rotate_left
           ·rintro w' ⟨s0, s1, s2, s3, s4, s5⟩
            go_simp
            with_reducible rfl
           rotate_left
           ·simp only [Act.put, sZ1, sZ2, sZ3, bL, bM]
            rfl
           refine bR (i := 10) (N := some 56) (v := ?_) (a' := ?_) #[true, true, true, true, true, true, true, true, true, true, true, false, false, false, false, false] rfl rfl (bQ HT_.out (by kernel_rfl)) (fun _ _ _ h => h) (Or.inl ⟨by rfl, ?_⟩) ?_ ?_
           rotate_left
           ·intro w'
            go_simp
            with_reducible rfl
           rotate_left
           ·simp only [Act.put, sZ1, sZ2, sZ3, bL, bM]
            rfl
           refine bR (i := 11) (N := some 57) (v := ?_) (a' := ?_) #[true, true, true, true, true, true, true, true, true, true, true, true, false, false, false, false] rfl rfl (bQ HT_.out (by kernel_rfl)) (fun _ _ _ h => h) (Or.inl ⟨by rfl, ?_⟩) ?_ ?_
           rotate_left
           ·intro w'
            go_simp
            with_reducible rfl
           rotate_left
           ·simp only [Act.put, sZ1, sZ2, sZ3, bL, bM]
            rfl
           refine take_ (i := 12) (N := some 58) (v := ?_) (a' := ?_) #[true, true, true, true, true, true, true, true, true, true, true, true, true, false, false, false] rfl rfl (bX HT_.out HW_.out (by kernel_rfl)) (fun _ _ _ h => h) (Or.inl ⟨by rfl, ?_⟩) hHeld ?_ ?_
           rotate_left
           ·rintro w' ⟨s0, s1, s2, s3, s4, s5⟩
            go_simp
            with_reducible rfl
           rotate_left
           ·simp only [Act.put, sZ1, sZ2, sZ3, bL, bM]
            rfl
           refine bR (i := 13) (N := some 59) (v := ?_) (a' := ?_) #[true, true, true, true, true, true, true, true, true, true, true, true, true, true, false, false] rfl rfl (bQ HT_.out (by kernel_rfl)) (fun _ _ _ h => h) (Or.inl ⟨by rfl, ?_⟩) ?_ ?_
           rotate_left
           ·intro w'
            go_simp
            with_reducible rfl
           rotate_left
           ·simp only [Act.put, sZ1, sZ2, sZ3, bL, bM]
            rfl
           refine one_ (i := 14) (N := some 60) #[true, true, true, true, true, true, true, true, true, true, true, true, true, true, true, false] rfl rfl (one_of HT_.out (by kernel_rfl)) (by decide) (fun K hK => ?_)
           refine Kd.R_lit_step k128 _ 128 ?hg (N := 60) ?hd (xs := ([(⟨(rd_T115 l0_0 0).f0, a2, 3, 0, false⟩ : S128), (⟨a2, (rd_T115 l1_0 0).f0, 2, 0, false⟩ : S128)] : List (S128))) (inner := [.int .i64 ((rd_T115 l0_0 0).f0), .int .i64 a2, .int .i64 3, .int .i64 0, .bool false, .int .i64 a2, .int .i64 ((rd_T115 l1_0 0).f0), .int .i64 2, .int .i64 0, .bool false]) (ok := fun _ => True) (okp := fun _ => True) ?hr ?hp (fun _ hk => hk) trivial (Below.refl _ _) (Nat.le_refl _) (by simp) ?_; (case hd => rfl); (case hg => rfl); (case hr => first | (go_simp; done) | (go_simp; rfl)); (case hp => exact (Reps.c5 (show Kd.M k128 _ _ _ (⟨(rd_T115 l0_0 0).f0, a2, 3, 0, false⟩ : S128) [.int .i64 ((rd_T115 l0_0 0).f0), .int .i64 a2, .int .i64 3, .int .i64 0, .bool false] from (k128_mkM _ _ _ (⟨(rd_T115 l0_0 0).f0, a2, 3, 0, false⟩ : S128) )) (Reps.c5 (show Kd.M k128 _ _ _ (⟨a2, (rd_T115 l1_0 0).f0, 2, 0, false⟩ : S128) [.int .i64 a2, .int .i64 ((rd_T115 l1_0 0).f0), .int .i64 2, .int .i64 0, .bool false] from (k128_mkM _ _ _ (⟨a2, (rd_T115 l1_0 0).f0, 2, 0, false⟩ : S128) )) (Reps.none _ _))))
           intro v247 w43 ho44 hb hg_ hnew_
           clear hg_ hnew_
           (first | rw [← Ny246.out] at ho44 | (simp only [Int.reduceToNat] at ho44; rw [← Ny246.out] at ho44))
           have n0_ := Aside0.mk (Kd.R_lower ho44 (bK (by repeat (first | (with_reducible first | exact HB.out | apply bE | apply bA | apply bD | refine bJ ?_ GE239.out | refine bJ ?_ GE240.out) | exact HB.out))))
           have n1_ := Aside0.mk (bU (g := gb239) (o := .cells #[.slice (some ad244) l0_0.length c0_0] 44 (0, 0)) (by (with_reducible repeat (first | refine bG ?_ _ | refine bH ?_ | refine bF ?_ _)); exact BK239.out) hb)
           have n2_ := Aside0.mk (bU (g := gb240) (o := .cells #[.slice (some ad245) l1_0.length c1_0] 44 (0, 0)) (by (with_reducible repeat (first | refine bG ?_ _ | refine bH ?_ | refine bF ?_ _)); exact BK240.out) hb)
           have n3_ := Aside0.mk (bP (by repeat (first | (with_reducible first | exact HB.out | apply bE | apply bA | apply bD | refine bJ ?_ GE239.out | refine bJ ?_ GE240.out) | exact HB.out)) hb)
           clear BK239
           clear BK240
           clear HB
           have HO248 := n0_
           have BK239 := n1_
           have BK240 := n2_
           have HB := n3_
           clear n0_ n1_ n2_ n3_
           clear hb ho44
           refine hK.out _ _ ⟨(bC BK239.out 0).trans rfl, (bC BK240.out 0).trans rfl, ((HB.out.cell (World.block_lt_of_cell? w _ hw244_0)).trans hw244_0), ((HB.out.cell (World.block_lt_of_cell? w _ hw244_1)).trans hw244_1), ((HB.out.cell (World.block_lt_of_cell? w _ hw245_0)).trans hw245_0), ((HB.out.cell (World.block_lt_of_cell? w _ hw245_1)).trans hw245_1)⟩ (fun hHeld => ?_)
           clear hK K
           refine norm_ (a' := ?_) ?_ ?_
           rotate_left
           ·show Act.put _ (some 60) _ = _
            simp only [Act.put, sZ1, sZ2, sZ3, bL, bM]
            rfl
           refine bR (i := 15) (N := some 11) (v := ?_) (a' := ?_) #[true, true, true, true, true, true, true, true, true, true, true, true, true, true, true, true] rfl rfl (bQ HT_.out (by kernel_rfl)) (fun _ _ _ h => h) (Or.inl ⟨by rfl, ?_⟩) ?_ ?_
           rotate_left
           ·intro w'
            go_simp
            with_reducible rfl
           rotate_left
           ·simp only [Act.put, sZ1, sZ2, sZ3, bL, bM]
            rfl
           refine done_ (done_of HT_.out (by kernel_rfl)) ?_
           try go_wp2
           have n0_ := Aside0.mk (Kd.R_drew HO248.out)
           have n1_ := Aside0.mk (bH BK239.out)
           have n2_ := Aside0.mk (bH BK240.out)
           have n3_ := Aside0.mk (bD HB.out)
           clear HO248
           clear BK239
           clear BK240
           clear HB
           have HO248 := n0_
           have BK239 := n1_
           have BK240 := n2_
           have HB := n3_
           clear n0_ n1_ n2_ n3_
           have q46 : (1 : Int) ≤ ((l0_0.length : Int) : Int) := of_decide_eq_true (by first | (with_reducible assumption) | assumption)
           obtain ⟨i046, hi046, _, hsz46, _⟩ := info_parts info115
           have hroom46 : l0_0.length ≤ c0_0 := HC0_0.out
           have hC46 : Kd.C k115 _ (some ad244) l0_0.length l0_0 := HR0_0.out
           have hcut46 := cut_from (P := Try.prog) 42 115 .i64 Try.underlying42 hi046 2 hsz46 (some ad244) l0_0.length c0_0 1 (by omega) q46
           have hr46 := Kd.C_drop (m := (1 : Int).toNat) (c := c0_0) hC46 (by omega) hroom46
           obtain ⟨A46, hA46⟩ : ∃ A1, A1 = (if c0_0 = (1 : Int).toNat then (some ad244) else ((some ad244) : Option Addr).map (·.add ((1 : Int).toNat * 2))) := ⟨_, rfl⟩
           obtain ⟨c46, hc46⟩ : ∃ c1, c1 = c0_0 - (1 : Int).toNat := ⟨_, rfl⟩
           have hy46 : y249.length = l0_0.length - (1 : Int).toNat := (by rw [Ny249.out, List.length_drop] <;> omega)
           rw [show (l0_0).drop (1 : Int).toNat = y249 from Ny249.out.symm] at hr46
           replace hr46 : Kd.C k115 _ A46 y249.length y249 := (by rw [hA46]; exact hr46)
           rw [← hy46, ← hA46, ← hc46] at hcut46
           have HR252 := Aside0.mk hr46
           have HC252 := Aside0.mk (show y249.length ≤ c46 from by rw [hy46, hc46]; exact Nat.sub_le_sub_right hroom46 _)
           clear hr46 hC46 hroom46 hi046 hsz46 hc46
           have KY46 := Aside0.mk hy46
           have KA46 := Aside0.mk hA46
           clear hy46 hA46
           replace q46 := eq_true q46
           have q47 : (1 : Int) ≤ ((l1_0.length : Int) : Int) := of_decide_eq_true (by first | (with_reducible assumption) | assumption)
           obtain ⟨i047, hi047, _, hsz47, _⟩ := info_parts info115
           have hroom47 : l1_0.length ≤ c1_0 := HC1_0.out
           have hC47 : Kd.C k115 _ (some ad245) l1_0.length l1_0 := HR1_0.out
           have hcut47 := cut_from (P := Try.prog) 42 115 .i64 Try.underlying42 hi047 2 hsz47 (some ad245) l1_0.length c1_0 1 (by omega) q47
           have hr47 := Kd.C_drop (m := (1 : Int).toNat) (c := c1_0) hC47 (by omega) hroom47
           obtain ⟨A47, hA47⟩ : ∃ A1, A1 = (if c1_0 = (1 : Int).toNat then (some ad245) else ((some ad245) : Option Addr).map (·.add ((1 : Int).toNat * 2))) := ⟨_, rfl⟩
           obtain ⟨c47, hc47⟩ : ∃ c1, c1 = c1_0 - (1 : Int).toNat := ⟨_, rfl⟩
           have hy47 : y253.length = l1_0.length - (1 : Int).toNat := (by rw [Ny253.out, List.length_drop] <;> omega)
           rw [show (l1_0).drop (1 : Int).toNat = y253 from Ny253.out.symm] at hr47
           replace hr47 : Kd.C k115 _ A47 y253.length y253 := (by rw [hA47]; exact hr47)
           rw [← hy47, ← hA47, ← hc47] at hcut47
           have HR256 := Aside0.mk hr47
           have HC256 := Aside0.mk (show y253.length ≤ c47 from by rw [hy47, hc47]; exact Nat.sub_le_sub_right hroom47 _)
           clear hr47 hC47 hroom47 hi047 hsz47 hc47
           have KY47 := Aside0.mk hy47
           have KA47 := Aside0.mk hA47
           clear hy47 hA47
           replace q47 := eq_true q47
           obtain ⟨Ao48, co48, eo48⟩ := Kd.R_slice HO248.out
           (first | subst eo48 | (injection eo48 with f1_ f2_ f3_; have f4_ := f1_.symm; have f5_ := f3_.symm; clear f1_ f2_ f3_; subst f4_; subst f5_))
           refine start_ (n := 10) (S := fun w' => w'.cell? ⟨gb239, 0, none⟩ = some (.slice (some ad244) l0_0.length c0_0) ∧ w'.cell? ⟨gb240, 0, none⟩ = some (.slice (some ad245) l1_0.length c1_0)) (ds := []) #[false, false, false, false, false, false, false, false, false, false] (by kernel_rfl) rfl rfl ⟨(bC BK239.out 0).trans rfl, (bC BK240.out 0).trans rfl⟩ (fun hHeld => ?_); refine with_tabW easementref16_Again.tab9 easementref16_Again.bits9 (fun HT_ HW_ => ?_)
           generalize w43.drew = w45 at HO248 BK239 BK240 HB HR252 HR256 hHeld ⊢
           refine bR (i := 0) (N := some 61) (v := ?_) (a' := ?_) #[true, false, false, false, false, false, false, false, false, false] rfl rfl (bQ HT_.out (by kernel_rfl)) (fun _ _ _ h => h) (Or.inl ⟨by rfl, ?_⟩) ?_ ?_
           rotate_left
           ·intro w'
            go_simp
            with_reducible rfl
           rotate_left
           ·simp only [Act.put, sZ1, sZ2, sZ3, bL, bM]
            rfl
           refine bR (i := 1) (N := some 62) (v := ?_) (a' := ?_) #[true, true, false, false, false, false, false, false, false, false] rfl rfl (bQ HT_.out (by kernel_rfl)) (fun _ _ _ h => h) (Or.inl ⟨by rfl, ?_⟩) ?_ ?_
           rotate_left
           ·intro w'
            go_simp
            with_reducible rfl
           rotate_left
           ·simp only [Act.put, sZ1, sZ2, sZ3, bL, bM]
            rfl
           refine bR (i := 4) (N := some 65) (v := ?_) (a' := ?_) #[true, true, false, false, true, false, false, false, false, false] rfl rfl (bQ HT_.out (by kernel_rfl)) (fun _ _ _ h => h) (Or.inl ⟨by rfl, ?_⟩) ?_ ?_
           rotate_left
           ·intro w'
            go_simp
            with_reducible rfl
           rotate_left
           ·simp only [Act.put, sZ1, sZ2, sZ3, bL, bM]
            rfl
           refine take_ (i := 2) (N := some 63) (v := ?_) (a' := ?_) #[true, true, true, false, true, false, false, false, false, false] rfl rfl (bX HT_.out HW_.out (by kernel_rfl)) (fun _ _ _ h => h) (Or.inl ⟨by rfl, ?_⟩) hHeld ?_ ?_
           rotate_left
           ·rintro w' ⟨s0, s1⟩
            go_simp
            with_reducible rfl
           rotate_left
           ·simp only [Act.put, sZ1, sZ2, sZ3, bL, bM]
            rfl
           refine bR (i := 3) (N := some 64) (v := ?_) (a' := ?_) #[true, true, true, true, true, false, false, false, false, false] rfl rfl (bQ HT_.out (by kernel_rfl)) (fun _ _ _ h => h) (Or.inl ⟨by rfl, ?_⟩) ?_ ?_
           rotate_left
           ·intro w'
            go_simp
            with_reducible rfl
           rotate_left
           ·simp only [Act.put, sZ1, sZ2, sZ3, bL, bM]
            rfl
           refine take_ (i := 5) (N := some 66) (v := ?_) (a' := ?_) #[true, true, true, true, true, true, false, false, false, false] rfl rfl (bX HT_.out HW_.out (by kernel_rfl)) (fun _ _ _ h => h) (Or.inl ⟨by rfl, ?_⟩) hHeld ?_ ?_
           rotate_left
           ·rintro w' ⟨s0, s1⟩
            go_simp
            with_reducible rfl
           rotate_left
           ·simp only [Act.put, sZ1, sZ2, sZ3, bL, bM]
            rfl
           refine bR (i := 6) (N := some 67) (v := ?_) (a' := ?_) #[true, true, true, true, true, true, true, false, false, false] rfl rfl (bQ HT_.out (by kernel_rfl)) (fun _ _ _ h => h) (Or.inl ⟨by rfl, ?_⟩) ?_ ?_
           rotate_left
           ·intro w'
            go_simp
            with_reducible rfl
           rotate_left
           ·simp only [Act.put, sZ1, sZ2, sZ3, bL, bM]
            rfl
           refine one_ (i := 7) (N := some 68) #[true, true, true, true, true, true, true, true, false, false] rfl rfl (one_of HT_.out (by kernel_rfl)) (by decide) (fun K hK => ?_)
           refine goes_ Try.func104 (by kernel_rfl) rfl #[.slice Ao48 y246.length co48, .slice A46 y249.length c46, .slice A47 y253.length c47, .int .i64 1, .int .i64 1] (by rfl) rfl rfl (by (try simp only [List.map_toArray, List.map_cons, List.map_nil]); first | done | rfl | (simp only [List.length_drop, List.length_take]; rfl)) ?_
           with_reducible refine (easementref16_slots.calls k2 (fun k_ => some k_ = (.slice Ao48 y246.length co48 : Value).ownBlock) (.slice Ao48 y246.length co48) y246 _ _ y249 _ _ y253 1 1 t257 w _ ?side1 ?side2 ?side3 ?side4 ?side5 ?side6 A39.out).mono ?_
           (case side1 => repeat (first | (with_reducible first | exact HB.out | apply bE | apply bA | apply bD | refine bJ ?_ GE239.out | refine bJ ?_ GE240.out) | exact HB.out))
           (case side2 => exact Kd.R_tight rfl HO248.out)
           (case side3 => exact Kd.C_kept_came k115_heap HR252.out (by repeat (first | (with_reducible first | exact HB.out | apply bE | apply bA | apply bD | refine bJ ?_ GE239.out | refine bJ ?_ GE240.out) | exact HB.out)) (fun k_ hs_ => (fun e_ => Kd.R_base HO248.out k_ e_.symm) hs_))
           (case side4 => exact HC252.out)
           (case side5 => exact Kd.C_kept_came k115_heap HR256.out (by repeat (first | (with_reducible first | exact HB.out | apply bE | apply bA | apply bD | refine bJ ?_ GE239.out | refine bJ ?_ GE240.out) | exact HB.out)) (fun k_ hs_ => (fun e_ => Kd.R_base HO248.out k_ e_.symm) hs_))
           (case side6 => exact HC256.out)
           rintro e w49 ⟨v258, rfl, ho0, hb, hkp⟩
           refine ⟨_, rfl, ?_⟩
           have n0_ := Aside0.mk (blk_kept (by (with_reducible repeat (first | refine bG ?_ _ | refine bH ?_ | refine bF ?_ _)); exact BK239.out) hkp (fun hs_ => (fun e_ => (Kd.R_ne HO248.out BK239.out (by decide)) e_) hs_))
           have n1_ := Aside0.mk (blk_kept (by (with_reducible repeat (first | refine bG ?_ _ | refine bH ?_ | refine bF ?_ _)); exact BK240.out) hkp (fun hs_ => (fun e_ => (Kd.R_ne HO248.out BK240.out (by decide)) e_) hs_))
           have n2_ := Aside0.mk (Kd.R_mono (ok' := fun k_ => True) ho0 (fun k_ hk_ => trivial))
           have n3_ := Aside0.mk (hb)
           clear BK239
           clear BK240
           clear HB
           clear HO248
           have BK239 := n0_
           have BK240 := n1_
           have HO259 := n2_
           have HB := n3_
           clear n0_ n1_ n2_ n3_
           (try clear hb)
           (try clear hkp)
           (try clear ho0)
           refine hK.out _ _ ⟨(bC BK239.out 0).trans rfl, (bC BK240.out 0).trans rfl⟩ (fun hHeld => ?_)
           clear hK K
           refine norm_ (a' := ?_) ?_ ?_
           rotate_left
           ·show Act.put _ (some 68) _ = _
            simp only [Act.put, sZ1, sZ2, sZ3, bL, bM]
            rfl
           refine bR (i := 8) (N := some 8) (v := ?_) (a' := ?_) #[true, true, true, true, true, true, true, true, true, false] rfl rfl (bQ HT_.out (by kernel_rfl)) (fun _ _ _ h => h) (Or.inl ⟨by rfl, ?_⟩) ?_ ?_
           rotate_left
           ·intro w'
            go_simp
            with_reducible rfl
           rotate_left
           ·simp only [Act.put, sZ1, sZ2, sZ3, bL, bM]
            rfl
           refine bR (i := 9) (N := some 9) (v := ?_) (a' := ?_) #[true, true, true, true, true, true, true, true, true, true] rfl rfl (bQ HT_.out (by kernel_rfl)) (fun _ _ _ h => h) (Or.inl ⟨by rfl, ?_⟩) ?_ ?_
           rotate_left
           ·intro w'
            go_simp
            with_reducible rfl
           rotate_left
           ·simp only [Act.put, sZ1, sZ2, sZ3, bL, bM]
            rfl
           refine done_ (done_of HT_.out (by kernel_rfl)) ?_
           try go_wp2
           go_ret2
           exact ⟨_, by first | rfl | (simp [errW_none, errW_some] <;> rfl) | (simp [*, errW_none, errW_some] <;> rfl), by (with_reducible repeat (first | apply Kd.R_alloc | apply Kd.R_drewN | apply Kd.R_drew)); exact HO259.out, by repeat (first | (with_reducible first | exact HB.out | apply bE | apply bA | apply bD | refine bJ ?_ GE239.out | refine bJ ?_ GE240.out) | exact HB.out)⟩
          ·rw [if_neg c38] at H
           exact absurd H (by simp)
         ·rw [if_neg c37] at H
          exact absurd H (by simp)
        ·rw [if_neg c36] at H
         exact absurd H (by simp)
       ·rw [if_neg c35] at H
        exact absurd H (by simp)

end Go.Proofs.Ythhebinonpoddaa.GStmtNeeds
