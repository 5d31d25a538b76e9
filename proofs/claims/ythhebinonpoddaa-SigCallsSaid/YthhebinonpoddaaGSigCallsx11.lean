/- Written for this claim by gp.py, a program of this session's, over the kit's print. Lean checks it. -/
import Derived.Test.YthhebinonpoddaaGSigCallsx0
namespace Go.Proofs.Ythhebinonpoddaa.GSigCalls
open Go.RowKit Go.Proofs.YthhebinonpoddaaW.PrintWords Go.Proofs.YthhebinonpoddaaW.PrintLast Go.Proofs.YthhebinonpoddaaW.PrintMore
attribute [local go_sem] max2_int min2_int max_two min_two max_three min_three max_four min_four   -- for this text's walks alone
set_option linter.unusedVariables false
set_option linter.unusedSimpArgs false

/-! ### easementref15_Shape: function 85 -/
def easementref15_Shape.l0 : Nat → Int → List (S115) → List (S115) → Option (Bool)
 | 0, _, _, _ => none
 | k + 1, x5, x213000, x214000 => if x5 < (x213000.length : Int) then (if 0 ≤ x5 then (if x5 < (x214000.length : Int) then (if (((rd_T115 x213000 x5).f1) != ((rd_T115 x214000 x5).f1)) = true then (some false) else (easementref15_Shape.l0 k (wrap64 (x5 + 1)) x213000 x214000)) else (none)) else (none)) else (some true)
def easementref15_Shape.f (k : Nat) (l0_0 : List (S115)) (l1_0 : List (S115)) : Option (Bool) := if (l0_0.length : Int) = (l1_0.length : Int) then (easementref15_Shape.l0 k 0 l0_0 l1_0) else (some false)
theorem easementref15_Shape.mono_l : ∀ k, (∀ y0 y1 y2, LeO (easementref15_Shape.l0 k y0 y1 y2) (easementref15_Shape.l0 (k + 1) y0 y1 y2))
 | 0 => fun _ _ _ r h => by simp [easementref15_Shape.l0] at h
 | k + 1 => by
  have ih0 := easementref15_Shape.mono_l k
  ·intro y0 y1 y2
   unfold easementref15_Shape.l0
   repeat' first
   | (with_reducible exact ih0 _ _ _)
   | (with_reducible exact LeO.refl _)
   | (with_reducible exact LeO.none _)
   | (with_reducible refine LeO.ite ?_ ?_)
   | (with_reducible refine LeO.bind ?_ (fun _ => ?_))
   | exact ih0 _ _ _
   | exact LeO.none _
   | refine LeO.ite ?_ ?_
   | refine LeO.bind ?_ (fun _ => ?_)
theorem easementref15_Shape.mono : ∀ a0 a1 k, LeO (easementref15_Shape.f k a0 a1) (easementref15_Shape.f (k + 1) a0 a1) := by
 intro a0 a1 k
 have ih0 := easementref15_Shape.mono_l k
 unfold easementref15_Shape.f
 repeat' first
   | (with_reducible exact ih0 _ _ _)
   | (with_reducible exact LeO.refl _)
   | (with_reducible exact LeO.none _)
   | (with_reducible refine LeO.ite ?_ ?_)
   | (with_reducible refine LeO.bind ?_ (fun _ => ?_))
   | exact ih0 _ _ _
   | exact LeO.none _
   | refine LeO.ite ?_ ?_
   | refine LeO.bind ?_ (fun _ => ?_)
set_option maxHeartbeats 8000000 in
set_option maxRecDepth 100000 in
theorem easementref15_Shape.calls (k : Nat) (A0_0 : Option Addr) (c0_0 : Nat) (l0_0 : List (S115)) (A1_0 : Option Addr) (c1_0 : Nat) (l1_0 : List (S115)) (r : Bool) (w : World) (hr0_0 : Kd.C k115 w A0_0 l0_0.length l0_0) (hc0_0 : l0_0.length ≤ c0_0) (hr1_0 : Kd.C k115 w A1_0 l1_0.length l1_0) (hc1_0 : l1_0.length ≤ c1_0) (h : easementref15_Shape.f k l0_0 l1_0 = some r) :
  Calls Try.prog 85 #[.agg #[.slice A0_0 l0_0.length c0_0], .agg #[.slice A1_0 l1_0.length c1_0]] w fun e w' => e = .returned (.bool r) ∧ Below w.heap.size w w' := by
 have hu44 := Try.underlying44
 have HR0_0 := Aside0.mk hr0_0
 have HC0_0 := Aside0.mk hc0_0
 clear hr0_0 hc0_0
 have HR1_0 := Aside0.mk hr1_0
 have HC1_0 := Aside0.mk hc1_0
 clear hr1_0 hc1_0
 have HB := Aside0.mk (Below.refl w.heap.size w)
 have H : (if (l0_0.length : Int) = (l1_0.length : Int) then (easementref15_Shape.l0 k 0 l0_0 l1_0) else (some false)) = some r := h
 clear h
 by_cases c3 : (l0_0.length : Int) = (l1_0.length : Int)
 ·rw [if_pos c3] at H
  have c3b0 : ((l0_0.length : Int) == (l1_0.length : Int)) = true := beq_iff_eq.mpr c3
  have c3b1 : ((l0_0.length : Int) != (l1_0.length : Int)) = false := bne_eq_false_iff_eq.mpr c3
  have c3b2 : (l0_0.length == l1_0.length) = true := by first | simpa using c3 | (simp at c3 ⊢; omega)
  clear c3
  have H' := Aside0.mk H
  clear H
  go_enter Try.func85, Try.ntmps85
  go_wp2_with (first | ((with_reducible refine bZ (N := 2) rfl ?_); refine bY ?hg (N := 2) ?hd (cs := #[.slice A0_0 l0_0.length c0_0]) (t := 44) ?hr ?_; (case hd => rfl); (case hg => rfl); (case hr => first | (go_simp; done) | (go_simp; rfl)); intro gb212 hg w4 hbox hb; have n0_ := Aside0.mk (bM (by repeat (first | (with_reducible first | exact HB.out | apply bC | apply bA | apply bB) | exact HB.out)) hb); have n1_ := Aside0.mk (hbox); have n2_ := Aside0.mk ((by rw [hg]; exact (bK (by repeat (first | (with_reducible first | exact HB.out | apply bC | apply bA | apply bB) | exact HB.out))) : w.heap.size ≤ gb212)); have n3_ := Aside0.mk ((by rw [hg]; exact (bK (by repeat (first | (with_reducible first | exact HB.out | apply bC | apply bA | apply bB) | exact HB.out))) : w.heap.size ≤ gb212)); clear HB; have HB := n0_; have BK212 := n1_; have GW212 := n2_; have GE212 := n3_; clear n0_ n1_ n2_ n3_; clear hb hbox hg) | ((with_reducible refine bZ (N := 3) rfl ?_); refine bY ?hg (N := 3) ?hd (cs := #[.slice A1_0 l1_0.length c1_0]) (t := 44) ?hr ?_; (case hd => rfl); (case hg => rfl); (case hr => first | (go_simp; done) | (go_simp; rfl)); intro gb213 hg w5 hbox hb; have n0_ := Aside0.mk (bL (g := gb212) (o := .cells #[.slice A0_0 l0_0.length c0_0] 44 (0, 0)) (by (with_reducible repeat (first | refine bF ?_ _ | refine bG ?_ | refine bE ?_ _)); exact BK212.out) hb); have n1_ := Aside0.mk (bM (by repeat (first | (with_reducible first | exact HB.out | apply bC | apply bA | apply bB | refine bD ?_ GE212.out) | exact HB.out)) hb); have n2_ := Aside0.mk (hbox); have n3_ := Aside0.mk ((by rw [hg]; exact (bK (by repeat (first | (with_reducible first | exact HB.out | apply bC | apply bA | apply bB | refine bD ?_ GE212.out) | exact HB.out))) : w.heap.size ≤ gb213)); have n4_ := Aside0.mk ((by rw [hg]; exact (bK (by repeat (first | (with_reducible first | exact HB.out | apply bC | apply bA | apply bB | refine bD ?_ GE212.out) | exact HB.out))) : w.heap.size ≤ gb213)); have n5_ := Aside0.mk ((by rw [hg]; exact Nat.ne_of_lt (cD (g := gb212) (o := .cells #[.slice A0_0 l0_0.length c0_0] 44 (0, 0)) (by (with_reducible repeat (first | refine bF ?_ _ | refine bG ?_ | refine bE ?_ _)); exact BK212.out)) : gb212 ≠ gb213)); have n6_ := Aside0.mk ((by rw [hg]; exact Nat.ne_of_gt (cD (g := gb212) (o := .cells #[.slice A0_0 l0_0.length c0_0] 44 (0, 0)) (by (with_reducible repeat (first | refine bF ?_ _ | refine bG ?_ | refine bE ?_ _)); exact BK212.out)) : gb213 ≠ gb212)); clear BK212; clear HB; have BK212 := n0_; have HB := n1_; have BK213 := n2_; have GW213 := n3_; have GE213 := n4_; have NB212_213 := n5_; have NB213_212 := n6_; clear n0_ n1_ n2_ n3_ n4_ n5_ n6_; clear hb hbox hg; have hnb6 := NB212_213.out; have hnc6 := NB213_212.out; have hcz7_0 : w5.cell? ⟨gb212, 0, none⟩ = some (.slice A0_0 l0_0.length c0_0) := (bH BK212.out 0).trans rfl; have hfz7_0 := bJ BK212.out 0; have hcz8_0 : w5.cell? ⟨gb213, 0, none⟩ = some (.slice A1_0 l1_0.length c1_0) := (bH BK213.out 0).trans rfl; have hfz8_0 := bJ BK213.out 0))
  repeat (go_quiet (first | ((with_reducible refine bZ (N := 2) rfl ?_); refine bY ?hg (N := 2) ?hd (cs := #[.slice A0_0 l0_0.length c0_0]) (t := 44) ?hr ?_; (case hd => rfl); (case hg => rfl); (case hr => first | (go_simp; done) | (go_simp; rfl)); intro gb212 hg w4 hbox hb; have n0_ := Aside0.mk (bM (by repeat (first | (with_reducible first | exact HB.out | apply bC | apply bA | apply bB) | exact HB.out)) hb); have n1_ := Aside0.mk (hbox); have n2_ := Aside0.mk ((by rw [hg]; exact (bK (by repeat (first | (with_reducible first | exact HB.out | apply bC | apply bA | apply bB) | exact HB.out))) : w.heap.size ≤ gb212)); have n3_ := Aside0.mk ((by rw [hg]; exact (bK (by repeat (first | (with_reducible first | exact HB.out | apply bC | apply bA | apply bB) | exact HB.out))) : w.heap.size ≤ gb212)); clear HB; have HB := n0_; have BK212 := n1_; have GW212 := n2_; have GE212 := n3_; clear n0_ n1_ n2_ n3_; clear hb hbox hg) | ((with_reducible refine bZ (N := 3) rfl ?_); refine bY ?hg (N := 3) ?hd (cs := #[.slice A1_0 l1_0.length c1_0]) (t := 44) ?hr ?_; (case hd => rfl); (case hg => rfl); (case hr => first | (go_simp; done) | (go_simp; rfl)); intro gb213 hg w5 hbox hb; have n0_ := Aside0.mk (bL (g := gb212) (o := .cells #[.slice A0_0 l0_0.length c0_0] 44 (0, 0)) (by (with_reducible repeat (first | refine bF ?_ _ | refine bG ?_ | refine bE ?_ _)); exact BK212.out) hb); have n1_ := Aside0.mk (bM (by repeat (first | (with_reducible first | exact HB.out | apply bC | apply bA | apply bB | refine bD ?_ GE212.out) | exact HB.out)) hb); have n2_ := Aside0.mk (hbox); have n3_ := Aside0.mk ((by rw [hg]; exact (bK (by repeat (first | (with_reducible first | exact HB.out | apply bC | apply bA | apply bB | refine bD ?_ GE212.out) | exact HB.out))) : w.heap.size ≤ gb213)); have n4_ := Aside0.mk ((by rw [hg]; exact (bK (by repeat (first | (with_reducible first | exact HB.out | apply bC | apply bA | apply bB | refine bD ?_ GE212.out) | exact HB.out))) : w.heap.size ≤ gb213)); have n5_ := Aside0.mk ((by rw [hg]; exact Nat.ne_of_lt (cD (g := gb212) (o := .cells #[.slice A0_0 l0_0.length c0_0] 44 (0, 0)) (by (with_reducible repeat (first | refine bF ?_ _ | refine bG ?_ | refine bE ?_ _)); exact BK212.out)) : gb212 ≠ gb213)); have n6_ := Aside0.mk ((by rw [hg]; exact Nat.ne_of_gt (cD (g := gb212) (o := .cells #[.slice A0_0 l0_0.length c0_0] 44 (0, 0)) (by (with_reducible repeat (first | refine bF ?_ _ | refine bG ?_ | refine bE ?_ _)); exact BK212.out)) : gb213 ≠ gb212)); clear BK212; clear HB; have BK212 := n0_; have HB := n1_; have BK213 := n2_; have GW213 := n3_; have GE213 := n4_; have NB212_213 := n5_; have NB213_212 := n6_; clear n0_ n1_ n2_ n3_ n4_ n5_ n6_; clear hb hbox hg; have hnb6 := NB212_213.out; have hnc6 := NB213_212.out; have hcz7_0 : w5.cell? ⟨gb212, 0, none⟩ = some (.slice A0_0 l0_0.length c0_0) := (bH BK212.out 0).trans rfl; have hfz7_0 := bJ BK212.out 0; have hcz8_0 : w5.cell? ⟨gb213, 0, none⟩ = some (.slice A1_0 l1_0.length c1_0) := (bH BK213.out 0).trans rfl; have hfz8_0 := bJ BK213.out 0)); try go_wp2_with (first | ((with_reducible refine bZ (N := 2) rfl ?_); refine bY ?hg (N := 2) ?hd (cs := #[.slice A0_0 l0_0.length c0_0]) (t := 44) ?hr ?_; (case hd => rfl); (case hg => rfl); (case hr => first | (go_simp; done) | (go_simp; rfl)); intro gb212 hg w4 hbox hb; have n0_ := Aside0.mk (bM (by repeat (first | (with_reducible first | exact HB.out | apply bC | apply bA | apply bB) | exact HB.out)) hb); have n1_ := Aside0.mk (hbox); have n2_ := Aside0.mk ((by rw [hg]; exact (bK (by repeat (first | (with_reducible first | exact HB.out | apply bC | apply bA | apply bB) | exact HB.out))) : w.heap.size ≤ gb212)); have n3_ := Aside0.mk ((by rw [hg]; exact (bK (by repeat (first | (with_reducible first | exact HB.out | apply bC | apply bA | apply bB) | exact HB.out))) : w.heap.size ≤ gb212)); clear HB; have HB := n0_; have BK212 := n1_; have GW212 := n2_; have GE212 := n3_; clear n0_ n1_ n2_ n3_; clear hb hbox hg) | ((with_reducible refine bZ (N := 3) rfl ?_); refine bY ?hg (N := 3) ?hd (cs := #[.slice A1_0 l1_0.length c1_0]) (t := 44) ?hr ?_; (case hd => rfl); (case hg => rfl); (case hr => first | (go_simp; done) | (go_simp; rfl)); intro gb213 hg w5 hbox hb; have n0_ := Aside0.mk (bL (g := gb212) (o := .cells #[.slice A0_0 l0_0.length c0_0] 44 (0, 0)) (by (with_reducible repeat (first | refine bF ?_ _ | refine bG ?_ | refine bE ?_ _)); exact BK212.out) hb); have n1_ := Aside0.mk (bM (by repeat (first | (with_reducible first | exact HB.out | apply bC | apply bA | apply bB | refine bD ?_ GE212.out) | exact HB.out)) hb); have n2_ := Aside0.mk (hbox); have n3_ := Aside0.mk ((by rw [hg]; exact (bK (by repeat (first | (with_reducible first | exact HB.out | apply bC | apply bA | apply bB | refine bD ?_ GE212.out) | exact HB.out))) : w.heap.size ≤ gb213)); have n4_ := Aside0.mk ((by rw [hg]; exact (bK (by repeat (first | (with_reducible first | exact HB.out | apply bC | apply bA | apply bB | refine bD ?_ GE212.out) | exact HB.out))) : w.heap.size ≤ gb213)); have n5_ := Aside0.mk ((by rw [hg]; exact Nat.ne_of_lt (cD (g := gb212) (o := .cells #[.slice A0_0 l0_0.length c0_0] 44 (0, 0)) (by (with_reducible repeat (first | refine bF ?_ _ | refine bG ?_ | refine bE ?_ _)); exact BK212.out)) : gb212 ≠ gb213)); have n6_ := Aside0.mk ((by rw [hg]; exact Nat.ne_of_gt (cD (g := gb212) (o := .cells #[.slice A0_0 l0_0.length c0_0] 44 (0, 0)) (by (with_reducible repeat (first | refine bF ?_ _ | refine bG ?_ | refine bE ?_ _)); exact BK212.out)) : gb213 ≠ gb212)); clear BK212; clear HB; have BK212 := n0_; have HB := n1_; have BK213 := n2_; have GW213 := n3_; have GE213 := n4_; have NB212_213 := n5_; have NB213_212 := n6_; clear n0_ n1_ n2_ n3_ n4_ n5_ n6_; clear hb hbox hg; have hnb6 := NB212_213.out; have hnc6 := NB213_212.out; have hcz7_0 : w5.cell? ⟨gb212, 0, none⟩ = some (.slice A0_0 l0_0.length c0_0) := (bH BK212.out 0).trans rfl; have hfz7_0 := bJ BK212.out 0; have hcz8_0 : w5.cell? ⟨gb213, 0, none⟩ = some (.slice A1_0 l1_0.length c1_0) := (bH BK213.out 0).trans rfl; have hfz8_0 := bJ BK213.out 0)))
  go_loopg [5] k (fun kq v5 w' => ∃ (x5_1 : Int), v5 = .int .i64 x5_1 ∧ Aside0 (easementref15_Shape.l0 kq x5_1 l0_0 l1_0 = some r) ∧ Aside0 (kq ≤ k) ∧ Aside0 (w'.heap[gb212]? = some (.cells #[(.slice A0_0 l0_0.length c0_0)] 44 (0, 0))) ∧ Aside0 (w'.heap[gb213]? = some (.cells #[(.slice A1_0 l1_0.length c1_0)] 44 (0, 0))) ∧ Aside0 (Below w.heap.size w w'))
  case atStart => exact ⟨(0), (by first | rfl | (simp; done) | (simp [*]; done)), H', ⟨Nat.le_refl _⟩, ⟨by (with_reducible repeat (first | refine bF ?_ _ | refine bG ?_ | refine bE ?_ _)); exact BK212.out⟩, ⟨by (with_reducible repeat (first | refine bF ?_ _ | refine bG ?_ | refine bE ?_ _)); exact BK213.out⟩, ⟨by repeat (first | (with_reducible first | exact HB.out | apply bC | apply bA | apply bB | refine bD ?_ GE212.out | refine bD ?_ GE213.out) | exact HB.out)⟩⟩
  case round =>
   clear H'
   try clear c1
   try clear p2
   try clear c3
   try clear c3b0
   try clear c3b1
   try clear c3b2
   try clear c6
   try clear c8
   try clear hcz7_0
   try clear hcz8_0
   try clear hfz7_0
   try clear hfz8_0
   obtain ⟨x5_1, rfl, HA, HK1, BK212, BK213, HB⟩ := hrel
   cases gk with
   | zero => exact absurd HA.out (by simp [easementref15_Shape.l0])
   | succ k1 =>
    have H := HA.out
    clear HA
    simp only [easementref15_Shape.l0] at H
    by_cases c9 : x5_1 < (l0_0.length : Int)
    ·rw [if_pos c9] at H
     have c9b0 : decide (x5_1 < (l0_0.length : Int)) = true := decide_eq_true c9
     clear c9
     by_cases c10 : 0 ≤ x5_1
     ·rw [if_pos c10] at H
      have c10b0 : decide (0 ≤ x5_1) = true := decide_eq_true c10
      clear c10
      by_cases c11 : x5_1 < (l1_0.length : Int)
      ·rw [if_pos c11] at H
       have c11b0 : decide (x5_1 < (l1_0.length : Int)) = true := decide_eq_true c11
       clear c11
       by_cases c12 : (((rd_T115 l0_0 x5_1).f1) != ((rd_T115 l1_0 x5_1).f1)) = true
       ·rw [if_pos c12] at H
        have c12b0 : (((rd_T115 l0_0 x5_1).f1) != ((rd_T115 l1_0 x5_1).f1)) = true := c12
        (try (have c12b1 : decide (((rd_T115 l0_0 x5_1).f1) = ((rd_T115 l1_0 x5_1).f1)) = false := by simpa using c12))
        (try (have c12b2 : (((rd_T115 l0_0 x5_1).f1) == ((rd_T115 l1_0 x5_1).f1)) = false := by simpa using c12))
        (try (have c12b3 : ¬ (((rd_T115 l0_0 x5_1).f1) = ((rd_T115 l1_0 x5_1).f1)) := by simpa using c12))
        clear c12
        obtain rfl := Option.some.inj H
        have hnb13 := NB212_213.out
        have hnc13 := NB213_212.out
        have hcz14_0 : wr.cell? ⟨gb212, 0, none⟩ = some (.slice A0_0 l0_0.length c0_0) := (bH BK212.out 0).trans rfl
        have hfz14_0 := bJ BK212.out 0
        have p214 : 0 ≤ (x5_1 : Int) := of_decide_eq_true (by first | (with_reducible assumption) | assumption)
        have q214 : x5_1 < (l0_0.length : Int) := of_decide_eq_true (by first | (with_reducible assumption) | assumption)
        obtain ⟨ad214, e214, hx214_0, hx214_1⟩ := at_T115 HR0_0.out x5_1 p214 q214
        cases e214
        replace hx214_0 := (HB.out.cell (World.block_lt_of_cell? w _ hx214_0)).trans hx214_0
        replace hx214_1 := (HB.out.cell (World.block_lt_of_cell? w _ hx214_1)).trans hx214_1
        replace p214 := eq_true p214
        replace q214 := eq_true q214
        have hcz15_0 : wr.cell? ⟨gb213, 0, none⟩ = some (.slice A1_0 l1_0.length c1_0) := (bH BK213.out 0).trans rfl
        have hfz15_0 := bJ BK213.out 0
        have p215 : 0 ≤ (x5_1 : Int) := of_decide_eq_true (by first | (with_reducible assumption) | assumption)
        have q215 : x5_1 < (l1_0.length : Int) := of_decide_eq_true (by first | (with_reducible assumption) | assumption)
        obtain ⟨ad215, e215, hx215_0, hx215_1⟩ := at_T115 HR1_0.out x5_1 p215 q215
        cases e215
        replace hx215_0 := (HB.out.cell (World.block_lt_of_cell? w _ hx215_0)).trans hx215_0
        replace hx215_1 := (HB.out.cell (World.block_lt_of_cell? w _ hx215_1)).trans hx215_1
        replace p215 := eq_true p215
        replace q215 := eq_true q215
        go_wp2
        repeat (go_quiet (fail); try go_wp2)
        go_ret
        exact ⟨by first | rfl | (simp [errW_none, errW_some] <;> rfl) | (simp [*, errW_none, errW_some] <;> rfl), by repeat (first | (with_reducible first | exact HB.out | apply bC | apply bA | apply bB | refine bD ?_ GE212.out | refine bD ?_ GE213.out) | exact HB.out)⟩
       ·rw [if_neg c12] at H
        have c12b0 : (((rd_T115 l0_0 x5_1).f1) != ((rd_T115 l1_0 x5_1).f1)) = false := by simpa using c12
        (try (have c12b1 : decide (((rd_T115 l0_0 x5_1).f1) = ((rd_T115 l1_0 x5_1).f1)) = true := by simpa using c12))
        (try (have c12b2 : (((rd_T115 l0_0 x5_1).f1) == ((rd_T115 l1_0 x5_1).f1)) = true := by simpa using c12))
        clear c12
        have H' := Aside0.mk H
        clear H
        have hnb16 := NB212_213.out
        have hnc16 := NB213_212.out
        have hcz17_0 : wr.cell? ⟨gb212, 0, none⟩ = some (.slice A0_0 l0_0.length c0_0) := (bH BK212.out 0).trans rfl
        have hfz17_0 := bJ BK212.out 0
        have p214 : 0 ≤ (x5_1 : Int) := of_decide_eq_true (by first | (with_reducible assumption) | assumption)
        have q214 : x5_1 < (l0_0.length : Int) := of_decide_eq_true (by first | (with_reducible assumption) | assumption)
        obtain ⟨ad214, e214, hx214_0, hx214_1⟩ := at_T115 HR0_0.out x5_1 p214 q214
        cases e214
        replace hx214_0 := (HB.out.cell (World.block_lt_of_cell? w _ hx214_0)).trans hx214_0
        replace hx214_1 := (HB.out.cell (World.block_lt_of_cell? w _ hx214_1)).trans hx214_1
        replace p214 := eq_true p214
        replace q214 := eq_true q214
        have hcz18_0 : wr.cell? ⟨gb213, 0, none⟩ = some (.slice A1_0 l1_0.length c1_0) := (bH BK213.out 0).trans rfl
        have hfz18_0 := bJ BK213.out 0
        have p215 : 0 ≤ (x5_1 : Int) := of_decide_eq_true (by first | (with_reducible assumption) | assumption)
        have q215 : x5_1 < (l1_0.length : Int) := of_decide_eq_true (by first | (with_reducible assumption) | assumption)
        obtain ⟨ad215, e215, hx215_0, hx215_1⟩ := at_T115 HR1_0.out x5_1 p215 q215
        cases e215
        replace hx215_0 := (HB.out.cell (World.block_lt_of_cell? w _ hx215_0)).trans hx215_0
        replace hx215_1 := (HB.out.cell (World.block_lt_of_cell? w _ hx215_1)).trans hx215_1
        replace p215 := eq_true p215
        replace q215 := eq_true q215
        go_wp2
        repeat (go_quiet (fail); try go_wp2)
        go_roundg k1
        case measure => have := HK1.out; omega
        case rel => exact ⟨(wrap64 (x5_1 + 1)), (by first | rfl | (simp; done) | (simp [*]; done)), H', ⟨by have := HK1.out; omega⟩, ⟨by (with_reducible repeat (first | refine bF ?_ _ | refine bG ?_ | refine bE ?_ _)); exact BK212.out⟩, ⟨by (with_reducible repeat (first | refine bF ?_ _ | refine bG ?_ | refine bE ?_ _)); exact BK213.out⟩, ⟨by repeat (first | (with_reducible first | exact HB.out | apply bC | apply bA | apply bB | refine bD ?_ GE212.out | refine bD ?_ GE213.out) | exact HB.out)⟩⟩
      ·rw [if_neg c11] at H
       exact absurd H (by simp)
     ·rw [if_neg c10] at H
      exact absurd H (by simp)
    ·rw [if_neg c9] at H
     have c9b0 : decide (x5_1 < (l0_0.length : Int)) = false := decide_eq_false c9
     clear c9
     obtain rfl := Option.some.inj H
     have hnb19 := NB212_213.out
     have hnc19 := NB213_212.out
     have hcz20_0 : wr.cell? ⟨gb212, 0, none⟩ = some (.slice A0_0 l0_0.length c0_0) := (bH BK212.out 0).trans rfl
     have hfz20_0 := bJ BK212.out 0
     go_wp2
     repeat (go_quiet (fail); try go_wp2)
     go_ret
     exact ⟨by first | rfl | (simp [errW_none, errW_some] <;> rfl) | (simp [*, errW_none, errW_some] <;> rfl), by repeat (first | (with_reducible first | exact HB.out | apply bC | apply bA | apply bB | refine bD ?_ GE212.out | refine bD ?_ GE213.out) | exact HB.out)⟩
 ·rw [if_neg c3] at H
  have c3b0 : ((l0_0.length : Int) == (l1_0.length : Int)) = false := beq_eq_false_iff_ne.mpr c3
  have c3b1 : ((l0_0.length : Int) != (l1_0.length : Int)) = true := bne_iff_ne.mpr c3
  have c3b2 : (l0_0.length == l1_0.length) = false := by first | simpa using c3 | (simp at c3 ⊢; omega)
  obtain rfl := Option.some.inj H
  go_enter Try.func85, Try.ntmps85
  go_wp2_with (first | ((with_reducible refine bZ (N := 2) rfl ?_); refine bY ?hg (N := 2) ?hd (cs := #[.slice A0_0 l0_0.length c0_0]) (t := 44) ?hr ?_; (case hd => rfl); (case hg => rfl); (case hr => first | (go_simp; done) | (go_simp; rfl)); intro gb212 hg w21 hbox hb; have n0_ := Aside0.mk (bM (by repeat (first | (with_reducible first | exact HB.out | apply bC | apply bA | apply bB) | exact HB.out)) hb); have n1_ := Aside0.mk (hbox); have n2_ := Aside0.mk ((by rw [hg]; exact (bK (by repeat (first | (with_reducible first | exact HB.out | apply bC | apply bA | apply bB) | exact HB.out))) : w.heap.size ≤ gb212)); have n3_ := Aside0.mk ((by rw [hg]; exact (bK (by repeat (first | (with_reducible first | exact HB.out | apply bC | apply bA | apply bB) | exact HB.out))) : w.heap.size ≤ gb212)); clear HB; have HB := n0_; have BK212 := n1_; have GW212 := n2_; have GE212 := n3_; clear n0_ n1_ n2_ n3_; clear hb hbox hg) | ((with_reducible refine bZ (N := 3) rfl ?_); refine bY ?hg (N := 3) ?hd (cs := #[.slice A1_0 l1_0.length c1_0]) (t := 44) ?hr ?_; (case hd => rfl); (case hg => rfl); (case hr => first | (go_simp; done) | (go_simp; rfl)); intro gb213 hg w22 hbox hb; have n0_ := Aside0.mk (bL (g := gb212) (o := .cells #[.slice A0_0 l0_0.length c0_0] 44 (0, 0)) (by (with_reducible repeat (first | refine bF ?_ _ | refine bG ?_ | refine bE ?_ _)); exact BK212.out) hb); have n1_ := Aside0.mk (bM (by repeat (first | (with_reducible first | exact HB.out | apply bC | apply bA | apply bB | refine bD ?_ GE212.out) | exact HB.out)) hb); have n2_ := Aside0.mk (hbox); have n3_ := Aside0.mk ((by rw [hg]; exact (bK (by repeat (first | (with_reducible first | exact HB.out | apply bC | apply bA | apply bB | refine bD ?_ GE212.out) | exact HB.out))) : w.heap.size ≤ gb213)); have n4_ := Aside0.mk ((by rw [hg]; exact (bK (by repeat (first | (with_reducible first | exact HB.out | apply bC | apply bA | apply bB | refine bD ?_ GE212.out) | exact HB.out))) : w.heap.size ≤ gb213)); have n5_ := Aside0.mk ((by rw [hg]; exact Nat.ne_of_lt (cD (g := gb212) (o := .cells #[.slice A0_0 l0_0.length c0_0] 44 (0, 0)) (by (with_reducible repeat (first | refine bF ?_ _ | refine bG ?_ | refine bE ?_ _)); exact BK212.out)) : gb212 ≠ gb213)); have n6_ := Aside0.mk ((by rw [hg]; exact Nat.ne_of_gt (cD (g := gb212) (o := .cells #[.slice A0_0 l0_0.length c0_0] 44 (0, 0)) (by (with_reducible repeat (first | refine bF ?_ _ | refine bG ?_ | refine bE ?_ _)); exact BK212.out)) : gb213 ≠ gb212)); clear BK212; clear HB; have BK212 := n0_; have HB := n1_; have BK213 := n2_; have GW213 := n3_; have GE213 := n4_; have NB212_213 := n5_; have NB213_212 := n6_; clear n0_ n1_ n2_ n3_ n4_ n5_ n6_; clear hb hbox hg; have hnb23 := NB212_213.out; have hnc23 := NB213_212.out; have hcz24_0 : w22.cell? ⟨gb212, 0, none⟩ = some (.slice A0_0 l0_0.length c0_0) := (bH BK212.out 0).trans rfl; have hfz24_0 := bJ BK212.out 0; have hcz25_0 : w22.cell? ⟨gb213, 0, none⟩ = some (.slice A1_0 l1_0.length c1_0) := (bH BK213.out 0).trans rfl; have hfz25_0 := bJ BK213.out 0))
  repeat (go_quiet (first | ((with_reducible refine bZ (N := 2) rfl ?_); refine bY ?hg (N := 2) ?hd (cs := #[.slice A0_0 l0_0.length c0_0]) (t := 44) ?hr ?_; (case hd => rfl); (case hg => rfl); (case hr => first | (go_simp; done) | (go_simp; rfl)); intro gb212 hg w21 hbox hb; have n0_ := Aside0.mk (bM (by repeat (first | (with_reducible first | exact HB.out | apply bC | apply bA | apply bB) | exact HB.out)) hb); have n1_ := Aside0.mk (hbox); have n2_ := Aside0.mk ((by rw [hg]; exact (bK (by repeat (first | (with_reducible first | exact HB.out | apply bC | apply bA | apply bB) | exact HB.out))) : w.heap.size ≤ gb212)); have n3_ := Aside0.mk ((by rw [hg]; exact (bK (by repeat (first | (with_reducible first | exact HB.out | apply bC | apply bA | apply bB) | exact HB.out))) : w.heap.size ≤ gb212)); clear HB; have HB := n0_; have BK212 := n1_; have GW212 := n2_; have GE212 := n3_; clear n0_ n1_ n2_ n3_; clear hb hbox hg) | ((with_reducible refine bZ (N := 3) rfl ?_); refine bY ?hg (N := 3) ?hd (cs := #[.slice A1_0 l1_0.length c1_0]) (t := 44) ?hr ?_; (case hd => rfl); (case hg => rfl); (case hr => first | (go_simp; done) | (go_simp; rfl)); intro gb213 hg w22 hbox hb; have n0_ := Aside0.mk (bL (g := gb212) (o := .cells #[.slice A0_0 l0_0.length c0_0] 44 (0, 0)) (by (with_reducible repeat (first | refine bF ?_ _ | refine bG ?_ | refine bE ?_ _)); exact BK212.out) hb); have n1_ := Aside0.mk (bM (by repeat (first | (with_reducible first | exact HB.out | apply bC | apply bA | apply bB | refine bD ?_ GE212.out) | exact HB.out)) hb); have n2_ := Aside0.mk (hbox); have n3_ := Aside0.mk ((by rw [hg]; exact (bK (by repeat (first | (with_reducible first | exact HB.out | apply bC | apply bA | apply bB | refine bD ?_ GE212.out) | exact HB.out))) : w.heap.size ≤ gb213)); have n4_ := Aside0.mk ((by rw [hg]; exact (bK (by repeat (first | (with_reducible first | exact HB.out | apply bC | apply bA | apply bB | refine bD ?_ GE212.out) | exact HB.out))) : w.heap.size ≤ gb213)); have n5_ := Aside0.mk ((by rw [hg]; exact Nat.ne_of_lt (cD (g := gb212) (o := .cells #[.slice A0_0 l0_0.length c0_0] 44 (0, 0)) (by (with_reducible repeat (first | refine bF ?_ _ | refine bG ?_ | refine bE ?_ _)); exact BK212.out)) : gb212 ≠ gb213)); have n6_ := Aside0.mk ((by rw [hg]; exact Nat.ne_of_gt (cD (g := gb212) (o := .cells #[.slice A0_0 l0_0.length c0_0] 44 (0, 0)) (by (with_reducible repeat (first | refine bF ?_ _ | refine bG ?_ | refine bE ?_ _)); exact BK212.out)) : gb213 ≠ gb212)); clear BK212; clear HB; have BK212 := n0_; have HB := n1_; have BK213 := n2_; have GW213 := n3_; have GE213 := n4_; have NB212_213 := n5_; have NB213_212 := n6_; clear n0_ n1_ n2_ n3_ n4_ n5_ n6_; clear hb hbox hg; have hnb23 := NB212_213.out; have hnc23 := NB213_212.out; have hcz24_0 : w22.cell? ⟨gb212, 0, none⟩ = some (.slice A0_0 l0_0.length c0_0) := (bH BK212.out 0).trans rfl; have hfz24_0 := bJ BK212.out 0; have hcz25_0 : w22.cell? ⟨gb213, 0, none⟩ = some (.slice A1_0 l1_0.length c1_0) := (bH BK213.out 0).trans rfl; have hfz25_0 := bJ BK213.out 0)); try go_wp2_with (first | ((with_reducible refine bZ (N := 2) rfl ?_); refine bY ?hg (N := 2) ?hd (cs := #[.slice A0_0 l0_0.length c0_0]) (t := 44) ?hr ?_; (case hd => rfl); (case hg => rfl); (case hr => first | (go_simp; done) | (go_simp; rfl)); intro gb212 hg w21 hbox hb; have n0_ := Aside0.mk (bM (by repeat (first | (with_reducible first | exact HB.out | apply bC | apply bA | apply bB) | exact HB.out)) hb); have n1_ := Aside0.mk (hbox); have n2_ := Aside0.mk ((by rw [hg]; exact (bK (by repeat (first | (with_reducible first | exact HB.out | apply bC | apply bA | apply bB) | exact HB.out))) : w.heap.size ≤ gb212)); have n3_ := Aside0.mk ((by rw [hg]; exact (bK (by repeat (first | (with_reducible first | exact HB.out | apply bC | apply bA | apply bB) | exact HB.out))) : w.heap.size ≤ gb212)); clear HB; have HB := n0_; have BK212 := n1_; have GW212 := n2_; have GE212 := n3_; clear n0_ n1_ n2_ n3_; clear hb hbox hg) | ((with_reducible refine bZ (N := 3) rfl ?_); refine bY ?hg (N := 3) ?hd (cs := #[.slice A1_0 l1_0.length c1_0]) (t := 44) ?hr ?_; (case hd => rfl); (case hg => rfl); (case hr => first | (go_simp; done) | (go_simp; rfl)); intro gb213 hg w22 hbox hb; have n0_ := Aside0.mk (bL (g := gb212) (o := .cells #[.slice A0_0 l0_0.length c0_0] 44 (0, 0)) (by (with_reducible repeat (first | refine bF ?_ _ | refine bG ?_ | refine bE ?_ _)); exact BK212.out) hb); have n1_ := Aside0.mk (bM (by repeat (first | (with_reducible first | exact HB.out | apply bC | apply bA | apply bB | refine bD ?_ GE212.out) | exact HB.out)) hb); have n2_ := Aside0.mk (hbox); have n3_ := Aside0.mk ((by rw [hg]; exact (bK (by repeat (first | (with_reducible first | exact HB.out | apply bC | apply bA | apply bB | refine bD ?_ GE212.out) | exact HB.out))) : w.heap.size ≤ gb213)); have n4_ := Aside0.mk ((by rw [hg]; exact (bK (by repeat (first | (with_reducible first | exact HB.out | apply bC | apply bA | apply bB | refine bD ?_ GE212.out) | exact HB.out))) : w.heap.size ≤ gb213)); have n5_ := Aside0.mk ((by rw [hg]; exact Nat.ne_of_lt (cD (g := gb212) (o := .cells #[.slice A0_0 l0_0.length c0_0] 44 (0, 0)) (by (with_reducible repeat (first | refine bF ?_ _ | refine bG ?_ | refine bE ?_ _)); exact BK212.out)) : gb212 ≠ gb213)); have n6_ := Aside0.mk ((by rw [hg]; exact Nat.ne_of_gt (cD (g := gb212) (o := .cells #[.slice A0_0 l0_0.length c0_0] 44 (0, 0)) (by (with_reducible repeat (first | refine bF ?_ _ | refine bG ?_ | refine bE ?_ _)); exact BK212.out)) : gb213 ≠ gb212)); clear BK212; clear HB; have BK212 := n0_; have HB := n1_; have BK213 := n2_; have GW213 := n3_; have GE213 := n4_; have NB212_213 := n5_; have NB213_212 := n6_; clear n0_ n1_ n2_ n3_ n4_ n5_ n6_; clear hb hbox hg; have hnb23 := NB212_213.out; have hnc23 := NB213_212.out; have hcz24_0 : w22.cell? ⟨gb212, 0, none⟩ = some (.slice A0_0 l0_0.length c0_0) := (bH BK212.out 0).trans rfl; have hfz24_0 := bJ BK212.out 0; have hcz25_0 : w22.cell? ⟨gb213, 0, none⟩ = some (.slice A1_0 l1_0.length c1_0) := (bH BK213.out 0).trans rfl; have hfz25_0 := bJ BK213.out 0)))
  go_ret
  exact ⟨by first | rfl | (simp [errW_none, errW_some] <;> rfl) | (simp [*, errW_none, errW_some] <;> rfl), by repeat (first | (with_reducible first | exact HB.out | apply bC | apply bA | apply bB | refine bD ?_ GE212.out | refine bD ?_ GE213.out) | exact HB.out)⟩

end Go.Proofs.Ythhebinonpoddaa.GSigCalls
