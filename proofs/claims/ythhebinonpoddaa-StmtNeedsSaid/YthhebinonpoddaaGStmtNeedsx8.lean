/- Written for this claim by gp.py, a program of this session's, over the kit's print. Lean checks it. -/
import Derived.Test.YthhebinonpoddaaGStmtNeedsx0
import Derived.Test.YthhebinonpoddaaGStmtNeedsx4
import Derived.Test.YthhebinonpoddaaGStmtNeedsx7
namespace Go.Proofs.Ythhebinonpoddaa.GStmtNeeds
open Go.RowKit Go.Proofs.YthhebinonpoddaaW.PrintWords Go.Proofs.YthhebinonpoddaaW.PrintLast Go.Proofs.YthhebinonpoddaaW.PrintMore
attribute [local go_sem] max2_int min2_int max_two min_two max_three min_three max_four min_four   -- for this text's walks alone
set_option linter.unusedVariables false
set_option linter.unusedSimpArgs false

/-! ### stmt_Check: function 40 -/
mutual
def stmt_Check.j0 : Nat → List (S44) → Int → Bool → Int → Int → Int → Int → Bool → Bool → Bool → Bool → Option (Int)
 | 0, _, _, _, _, _, _, _, _, _, _, _ => none
 | k + 1, x1, x2, x19, x158000, x158001, x158002, x158003, x158004, x163000, x163001, x163002 => if x19 = true then (some 7) else (if x163001 = true then (if x158002 < 0 then (stmt_Check.j1 k x1 x2 true x158000 x158001 x158002 x158003 x158004 x163000 x163001 x163002) else (stmt_Check.j1 k x1 x2 (decide (x158002 ≥ (x1.length : Int))) x158000 x158001 x158002 x158003 x158004 x163000 x163001 x163002)) else (stmt_Check.j1 k x1 x2 false x158000 x158001 x158002 x158003 x158004 x163000 x163001 x163002))
def stmt_Check.j1 : Nat → List (S44) → Int → Bool → Int → Int → Int → Int → Bool → Bool → Bool → Bool → Option (Int)
 | 0, _, _, _, _, _, _, _, _, _, _, _ => none
 | k + 1, x1, x2, x19, x158000, x158001, x158002, x158003, x158004, x163000, x163001, x163002 => if x19 = true then (some 7) else (if x163002 = true then (if x158003 < 0 then (some 7) else (if x158003 ≥ x2 then (some 7) else ((stmt_needs.f x158000 x158001 x158002 x158003 x158004 x1).bind fun bt163 => (some bt163.2)))) else ((stmt_needs.f x158000 x158001 x158002 x158003 x158004 x1).bind fun bt167 => (some bt167.2)))
end
def stmt_Check.f (k : Nat) (a0_0 : Int) (a0_1 : Int) (a0_2 : Int) (a0_3 : Int) (a0_4 : Bool) (l1 : List (S44)) (a2 : Int) : Option (Int) := (stmt_form.f k a0_0 a0_1 a0_2 a0_3 a0_4).bind fun bt158 => (if bt158.2.2.2 = true then (if bt158.1 = true then (if a0_1 < 0 then (stmt_Check.j0 k l1 a2 true a0_0 a0_1 a0_2 a0_3 a0_4 bt158.1 bt158.2.1 bt158.2.2.1) else (stmt_Check.j0 k l1 a2 (decide (a0_1 ≥ (l1.length : Int))) a0_0 a0_1 a0_2 a0_3 a0_4 bt158.1 bt158.2.1 bt158.2.2.1)) else (stmt_Check.j0 k l1 a2 false a0_0 a0_1 a0_2 a0_3 a0_4 bt158.1 bt158.2.1 bt158.2.2.1)) else (some 3))
theorem stmt_Check.mono_l : ∀ k, (∀ y0 y1 y2 y3 y4 y5 y6 y7 y8 y9 y10, LeO (stmt_Check.j0 k y0 y1 y2 y3 y4 y5 y6 y7 y8 y9 y10) (stmt_Check.j0 (k + 1) y0 y1 y2 y3 y4 y5 y6 y7 y8 y9 y10)) ∧ (∀ y0 y1 y2 y3 y4 y5 y6 y7 y8 y9 y10, LeO (stmt_Check.j1 k y0 y1 y2 y3 y4 y5 y6 y7 y8 y9 y10) (stmt_Check.j1 (k + 1) y0 y1 y2 y3 y4 y5 y6 y7 y8 y9 y10))
 | 0 => ⟨fun _ _ _ _ _ _ _ _ _ _ _ r h => by simp [stmt_Check.j0] at h, fun _ _ _ _ _ _ _ _ _ _ _ r h => by simp [stmt_Check.j1] at h⟩
 | k + 1 => by
  obtain ⟨ih0, ih1⟩ := stmt_Check.mono_l k
  refine ⟨?_, ?_⟩
  ·intro y0 y1 y2 y3 y4 y5 y6 y7 y8 y9 y10
   unfold stmt_Check.j0
   repeat' first
   | (with_reducible exact ih0 _ _ _ _ _ _ _ _ _ _ _)
   | (with_reducible exact ih1 _ _ _ _ _ _ _ _ _ _ _)
   | (with_reducible exact stmt_form.mono _ _ _ _ _ _)
   | (with_reducible exact LeO.refl _)
   | (with_reducible exact LeO.none _)
   | (with_reducible refine LeO.ite ?_ ?_)
   | (with_reducible refine LeO.bind ?_ (fun _ => ?_))
   | exact ih0 _ _ _ _ _ _ _ _ _ _ _
   | exact ih1 _ _ _ _ _ _ _ _ _ _ _
   | exact stmt_form.mono _ _ _ _ _ _
   | exact LeO.none _
   | refine LeO.ite ?_ ?_
   | refine LeO.bind ?_ (fun _ => ?_)
  ·intro y0 y1 y2 y3 y4 y5 y6 y7 y8 y9 y10
   unfold stmt_Check.j1
   repeat' first
   | (with_reducible exact ih0 _ _ _ _ _ _ _ _ _ _ _)
   | (with_reducible exact ih1 _ _ _ _ _ _ _ _ _ _ _)
   | (with_reducible exact stmt_form.mono _ _ _ _ _ _)
   | (with_reducible exact LeO.refl _)
   | (with_reducible exact LeO.none _)
   | (with_reducible refine LeO.ite ?_ ?_)
   | (with_reducible refine LeO.bind ?_ (fun _ => ?_))
   | exact ih0 _ _ _ _ _ _ _ _ _ _ _
   | exact ih1 _ _ _ _ _ _ _ _ _ _ _
   | exact stmt_form.mono _ _ _ _ _ _
   | exact LeO.none _
   | refine LeO.ite ?_ ?_
   | refine LeO.bind ?_ (fun _ => ?_)
theorem stmt_Check.mono : ∀ a0 a1 a2 a3 a4 a5 a6 k, LeO (stmt_Check.f k a0 a1 a2 a3 a4 a5 a6) (stmt_Check.f (k + 1) a0 a1 a2 a3 a4 a5 a6) := by
 intro a0 a1 a2 a3 a4 a5 a6 k
 obtain ⟨ih0, ih1⟩ := stmt_Check.mono_l k
 unfold stmt_Check.f
 repeat' first
   | (with_reducible exact ih0 _ _ _ _ _ _ _ _ _ _ _)
   | (with_reducible exact ih1 _ _ _ _ _ _ _ _ _ _ _)
   | (with_reducible exact stmt_form.mono _ _ _ _ _ _)
   | (with_reducible exact LeO.refl _)
   | (with_reducible exact LeO.none _)
   | (with_reducible refine LeO.ite ?_ ?_)
   | (with_reducible refine LeO.bind ?_ (fun _ => ?_))
   | exact ih0 _ _ _ _ _ _ _ _ _ _ _
   | exact ih1 _ _ _ _ _ _ _ _ _ _ _
   | exact stmt_form.mono _ _ _ _ _ _
   | exact LeO.none _
   | refine LeO.ite ?_ ?_
   | refine LeO.bind ?_ (fun _ => ?_)
set_option maxHeartbeats 8000000 in
set_option maxRecDepth 100000 in
theorem stmt_Check.calls (k : Nat) (a0_0 : Int) (a0_1 : Int) (a0_2 : Int) (a0_3 : Int) (a0_4 : Bool) (A1 : Option Addr) (c1 : Nat) (l1 : List (S44)) (a2 : Int) (r : Int) (w : World) (hr1 : Kd.C k44 w A1 l1.length l1) (hc1 : l1.length ≤ c1) (h : stmt_Check.f k a0_0 a0_1 a0_2 a0_3 a0_4 l1 a2 = some r) :
  Calls Try.prog 40 #[.agg #[.int .i64 a0_0, .int .i64 a0_1, .int .i64 a0_2, .int .i64 a0_3, .bool a0_4], .slice A1 l1.length c1, .int .i64 a2] w fun e w' => e = .returned (.int .i64 r) ∧ Below w.heap.size w w' := by
 have hu23 := Try.underlying23
 have hu91 := Try.underlying91
 have HR1 := Aside0.mk hr1
 have HC1 := Aside0.mk hc1
 clear hr1 hc1
 have HB := Aside0.mk (Below.refl w.heap.size w)
 have H : ((stmt_form.f k a0_0 a0_1 a0_2 a0_3 a0_4).bind fun bt158 => (if bt158.2.2.2 = true then (if bt158.1 = true then (if a0_1 < 0 then (stmt_Check.j0 k l1 a2 true a0_0 a0_1 a0_2 a0_3 a0_4 bt158.1 bt158.2.1 bt158.2.2.1) else (stmt_Check.j0 k l1 a2 (decide (a0_1 ≥ (l1.length : Int))) a0_0 a0_1 a0_2 a0_3 a0_4 bt158.1 bt158.2.1 bt158.2.2.1)) else (stmt_Check.j0 k l1 a2 false a0_0 a0_1 a0_2 a0_3 a0_4 bt158.1 bt158.2.1 bt158.2.2.1)) else (some 3))) = some r := h
 clear h
 replace H := Option.bind_eq_some_iff.mp H
 obtain ⟨⟨t158, t159, t160, t161⟩, A40, H⟩ := H
 replace H : (if t161 = true then (if t158 = true then (if a0_1 < 0 then (stmt_Check.j0 k l1 a2 true a0_0 a0_1 a0_2 a0_3 a0_4 t158 t159 t160) else (stmt_Check.j0 k l1 a2 (decide (a0_1 ≥ (l1.length : Int))) a0_0 a0_1 a0_2 a0_3 a0_4 t158 t159 t160)) else (stmt_Check.j0 k l1 a2 false a0_0 a0_1 a0_2 a0_3 a0_4 t158 t159 t160)) else (some 3)) = some r := H
 have A4 := Aside0.mk A40
 clear A40
 by_cases c5 : t161 = true
 ·subst c5
  have H1 : (if t158 = true then (if a0_1 < 0 then (stmt_Check.j0 k l1 a2 true a0_0 a0_1 a0_2 a0_3 a0_4 t158 t159 t160) else (stmt_Check.j0 k l1 a2 (decide (a0_1 ≥ (l1.length : Int))) a0_0 a0_1 a0_2 a0_3 a0_4 t158 t159 t160)) else (stmt_Check.j0 k l1 a2 false a0_0 a0_1 a0_2 a0_3 a0_4 t158 t159 t160)) = some r := by rw [if_pos rfl] at H; exact H
  clear H
  have H := H1
  clear H1
  have HC6 := Aside0.mk H
  clear H
  go_enter Try.func40, Try.ntmps40
  go_upto_region 4 with (first | ((with_reducible refine bT (N := 3) rfl ?_); (try (refine gate_guard (by rfl) ?_; dsimp only)); refine bS ?hg (N := 3) ?hd (cs := #[.int .i64 a0_0, .int .i64 a0_1, .int .i64 a0_2, .int .i64 a0_3, .bool a0_4]) (t := 23) ?hr ?_; (case hd => rfl); (case hg => rfl); (case hr => first | (go_simp; done) | (go_simp; rfl)); intro gb157 hg w7 hbox hb; have n0_ := Aside0.mk (bP (by repeat (first | (with_reducible first | exact HB.out | apply bE | apply bA | apply bD) | exact HB.out)) hb); have n1_ := Aside0.mk (hbox); have n2_ := Aside0.mk ((by rw [hg]; exact (bK (by repeat (first | (with_reducible first | exact HB.out | apply bE | apply bA | apply bD) | exact HB.out))) : w.heap.size ≤ gb157)); have n3_ := Aside0.mk ((by rw [hg]; exact (bK (by repeat (first | (with_reducible first | exact HB.out | apply bE | apply bA | apply bD) | exact HB.out))) : w.heap.size ≤ gb157)); clear HB; have HB := n0_; have BK157 := n1_; have GW157 := n2_; have GE157 := n3_; clear n0_ n1_ n2_ n3_; clear hb hbox hg; have hcz8_0 : w7.cell? ⟨gb157, 0, none⟩ = some (.int .i64 a0_0) := (bC BK157.out 0).trans rfl; have hcz8_1 : w7.cell? ⟨gb157, 1, none⟩ = some (.int .i64 a0_1) := (bC BK157.out 1).trans rfl; have hcz8_2 : w7.cell? ⟨gb157, 2, none⟩ = some (.int .i64 a0_2) := (bC BK157.out 2).trans rfl; have hcz8_3 : w7.cell? ⟨gb157, 3, none⟩ = some (.int .i64 a0_3) := (bC BK157.out 3).trans rfl; have hcz8_4 : w7.cell? ⟨gb157, 4, none⟩ = some (.bool a0_4) := (bC BK157.out 4).trans rfl; have hfz8_0 := bB BK157.out 0; have hfz8_1 := bB BK157.out 1; have hfz8_2 := bB BK157.out 2; have hfz8_3 := bB BK157.out 3; have hfz8_4 := bB BK157.out 4) | ((with_reducible refine bV (f := 64) rfl ?_); refine goesL_ (some 13) rfl rfl Try.func64 (by kernel_rfl) rfl #[.agg #[.int .i64 a0_0, .int .i64 a0_1, .int .i64 a0_2, .int .i64 a0_3, .bool a0_4]] rfl (by (try simp only [List.map_toArray, List.map_cons, List.map_nil]); first | done | rfl | (simp only [List.length_drop, List.length_take]; rfl)) ?_; (with_reducible refine (stmt_form.calls k a0_0 a0_1 a0_2 a0_3 a0_4 t158 t159 t160 true _ A4.out).mono ?_); rintro e w9 ⟨rfl, hb⟩; refine ⟨_, rfl, ?_⟩; have n0_ := Aside0.mk (bU (g := gb157) (o := .cells #[.int .i64 a0_0, .int .i64 a0_1, .int .i64 a0_2, .int .i64 a0_3, .bool a0_4] 23 (0, 0)) (by (with_reducible repeat (first | refine bG ?_ _ | refine bH ?_ | refine bF ?_ _)); exact BK157.out) hb); have n1_ := Aside0.mk (bP (by repeat (first | (with_reducible first | exact HB.out | apply bE | apply bA | apply bD | refine bJ ?_ GE157.out) | exact HB.out)) hb); clear BK157; clear HB; have BK157 := n0_; have HB := n1_; clear n0_ n1_; (try clear hb); (try clear hb2); (try clear hk); (try clear hi)) | ((with_reducible refine bT (N := 7) rfl ?_); (try (refine gate_guard (by rfl) ?_; dsimp only)); refine bS ?hg (N := 7) ?hd (cs := #[.bool false, .bool false, .bool false]) (t := 91) ?hr ?_; (case hd => rfl); (case hg => rfl); (case hr => first | (go_simp; done) | (go_simp; rfl)); intro gb162 hg w10 hbox hb; have n0_ := Aside0.mk (bU (g := gb157) (o := .cells #[.int .i64 a0_0, .int .i64 a0_1, .int .i64 a0_2, .int .i64 a0_3, .bool a0_4] 23 (0, 0)) (by (with_reducible repeat (first | refine bG ?_ _ | refine bH ?_ | refine bF ?_ _)); exact BK157.out) hb); have n1_ := Aside0.mk (bP (by repeat (first | (with_reducible first | exact HB.out | apply bE | apply bA | apply bD | refine bJ ?_ GE157.out) | exact HB.out)) hb); have n2_ := Aside0.mk (hbox); have n3_ := Aside0.mk ((by rw [hg]; exact (bK (by repeat (first | (with_reducible first | exact HB.out | apply bE | apply bA | apply bD | refine bJ ?_ GE157.out) | exact HB.out))) : w.heap.size ≤ gb162)); have n4_ := Aside0.mk ((by rw [hg]; exact (bK (by repeat (first | (with_reducible first | exact HB.out | apply bE | apply bA | apply bD | refine bJ ?_ GE157.out) | exact HB.out))) : w.heap.size ≤ gb162)); have n5_ := Aside0.mk ((by rw [hg]; exact Nat.ne_of_lt (blk_lt (g := gb157) (o := .cells #[.int .i64 a0_0, .int .i64 a0_1, .int .i64 a0_2, .int .i64 a0_3, .bool a0_4] 23 (0, 0)) (by (with_reducible repeat (first | refine bG ?_ _ | refine bH ?_ | refine bF ?_ _)); exact BK157.out)) : gb157 ≠ gb162)); have n6_ := Aside0.mk ((by rw [hg]; exact Nat.ne_of_gt (blk_lt (g := gb157) (o := .cells #[.int .i64 a0_0, .int .i64 a0_1, .int .i64 a0_2, .int .i64 a0_3, .bool a0_4] 23 (0, 0)) (by (with_reducible repeat (first | refine bG ?_ _ | refine bH ?_ | refine bF ?_ _)); exact BK157.out)) : gb162 ≠ gb157)); clear BK157; clear HB; have BK157 := n0_; have HB := n1_; have BK162 := n2_; have GW162 := n3_; have GE162 := n4_; have NB157_162 := n5_; have NB162_157 := n6_; clear n0_ n1_ n2_ n3_ n4_ n5_ n6_; clear hb hbox hg; have hnb11 := NB162_157.out; have hnc11 := NB157_162.out; have hcz12_0 : w10.cell? ⟨gb162, 0, none⟩ = some (.bool false) := (bC BK162.out 0).trans rfl; have hcz12_1 : w10.cell? ⟨gb162, 1, none⟩ = some (.bool false) := (bC BK162.out 1).trans rfl; have hcz12_2 : w10.cell? ⟨gb162, 2, none⟩ = some (.bool false) := (bC BK162.out 2).trans rfl; have hfz12_0 := bB BK162.out 0; have hfz12_1 := bB BK162.out 1; have hfz12_2 := bB BK162.out 2))
  (try simp only [Act.put, sZ1, sZ2, sZ3])
  go_cut [19] (fun v19 wc => ∃ (kq : Nat) (x19_5 : Bool), v19 = .bool x19_5 ∧ Aside0 (stmt_Check.j0 kq l1 a2 x19_5 a0_0 a0_1 a0_2 a0_3 a0_4 t158 t159 t160 = some r) ∧ Aside0 (kq ≤ k) ∧ Aside0 (wc.heap[gb157]? = some (.cells #[.int .i64 a0_0, .int .i64 a0_1, .int .i64 a0_2, .int .i64 a0_3, .bool a0_4] 23 (0, 0))) ∧ Aside0 (wc.heap[gb162]? = some (.cells #[.bool t158, .bool t159, .bool t160] 91 (0, 0))) ∧ Aside0 (Below w.heap.size w wc))
  case first =>
   have H := HC6.out
   clear HC6
   by_cases c13 : t158 = true
   ·subst c13
    have H1 : (if a0_1 < 0 then (stmt_Check.j0 k l1 a2 true a0_0 a0_1 a0_2 a0_3 a0_4 true t159 t160) else (stmt_Check.j0 k l1 a2 (decide (a0_1 ≥ (l1.length : Int))) a0_0 a0_1 a0_2 a0_3 a0_4 true t159 t160)) = some r := by rw [if_pos rfl] at H; exact H
    clear H
    have H := H1
    clear H1
    by_cases c14 : a0_1 < 0
    ·rw [if_pos c14] at H
     have c14b0 : decide (a0_1 < 0) = true := decide_eq_true c14
     clear c14
     (first | rw [c14b0] | (simp only [bL, bM]; rw [c14b0]) | skip)
     have H' := Aside0.mk H
     clear H
     have hnb15 := NB162_157.out
     have hnc15 := NB157_162.out
     have hcz16_0 : w10.cell? ⟨gb162, 0, none⟩ = some (.bool false) := (bC BK162.out 0).trans rfl
     have hcz16_1 : w10.cell? ⟨gb162, 1, none⟩ = some (.bool false) := (bC BK162.out 1).trans rfl
     have hcz16_2 : w10.cell? ⟨gb162, 2, none⟩ = some (.bool false) := (bC BK162.out 2).trans rfl
     have hfz16_0 := bB BK162.out 0
     have hfz16_1 := bB BK162.out 1
     have hfz16_2 := bB BK162.out 2
     have hcz17_0 : w10.cell? ⟨gb157, 0, none⟩ = some (.int .i64 a0_0) := (bC BK157.out 0).trans rfl
     have hcz17_1 : w10.cell? ⟨gb157, 1, none⟩ = some (.int .i64 a0_1) := (bC BK157.out 1).trans rfl
     have hcz17_2 : w10.cell? ⟨gb157, 2, none⟩ = some (.int .i64 a0_2) := (bC BK157.out 2).trans rfl
     have hcz17_3 : w10.cell? ⟨gb157, 3, none⟩ = some (.int .i64 a0_3) := (bC BK157.out 3).trans rfl
     have hcz17_4 : w10.cell? ⟨gb157, 4, none⟩ = some (.bool a0_4) := (bC BK157.out 4).trans rfl
     have hfz17_0 := bB BK157.out 0
     have hfz17_1 := bB BK157.out 1
     have hfz17_2 := bB BK157.out 2
     have hfz17_3 := bB BK157.out 3
     have hfz17_4 := bB BK157.out 4
     go_wp2
     go_meet
     case rel => exact ⟨_, (true), (by first | rfl | (simp; done) | (simp [*]; done)), H', ⟨by first | omega | exact Nat.le_refl _⟩, ⟨by (with_reducible repeat (first | refine bG ?_ _ | refine bH ?_ | refine bF ?_ _)); refine bW ?_ NB157_162.out _; (with_reducible repeat (first | refine bG ?_ _ | refine bH ?_ | refine bF ?_ _)); refine bW ?_ NB157_162.out _; (with_reducible repeat (first | refine bG ?_ _ | refine bH ?_ | refine bF ?_ _)); refine bW ?_ NB157_162.out _; (with_reducible repeat (first | refine bG ?_ _ | refine bH ?_ | refine bF ?_ _)); exact BK157.out⟩, ⟨by (with_reducible repeat (first | refine bG ?_ _ | refine bH ?_ | refine bF ?_ _)); refine bY (cs := #[.bool true, .bool t159, .bool false]) ?_ 2 _ rfl; (with_reducible repeat (first | refine bG ?_ _ | refine bH ?_ | refine bF ?_ _)); refine bY (cs := #[.bool true, .bool false, .bool false]) ?_ 1 _ rfl; (with_reducible repeat (first | refine bG ?_ _ | refine bH ?_ | refine bF ?_ _)); refine bY (cs := #[.bool false, .bool false, .bool false]) ?_ 0 _ rfl; (with_reducible repeat (first | refine bG ?_ _ | refine bH ?_ | refine bF ?_ _)); exact BK162.out⟩, ⟨by repeat (first | (with_reducible first | exact HB.out | apply bE | apply bA | apply bD | refine bJ ?_ GE157.out | refine bJ ?_ GE162.out) | exact HB.out)⟩⟩
    ·rw [if_neg c14] at H
     have c14b0 : decide (a0_1 < 0) = false := decide_eq_false c14
     clear c14
     (first | rw [c14b0] | (simp only [bL, bM]; rw [c14b0]) | skip)
     have H' := Aside0.mk H
     clear H
     have hnb18 := NB162_157.out
     have hnc18 := NB157_162.out
     have hcz19_0 : w10.cell? ⟨gb162, 0, none⟩ = some (.bool false) := (bC BK162.out 0).trans rfl
     have hcz19_1 : w10.cell? ⟨gb162, 1, none⟩ = some (.bool false) := (bC BK162.out 1).trans rfl
     have hcz19_2 : w10.cell? ⟨gb162, 2, none⟩ = some (.bool false) := (bC BK162.out 2).trans rfl
     have hfz19_0 := bB BK162.out 0
     have hfz19_1 := bB BK162.out 1
     have hfz19_2 := bB BK162.out 2
     have hcz20_0 : w10.cell? ⟨gb157, 0, none⟩ = some (.int .i64 a0_0) := (bC BK157.out 0).trans rfl
     have hcz20_1 : w10.cell? ⟨gb157, 1, none⟩ = some (.int .i64 a0_1) := (bC BK157.out 1).trans rfl
     have hcz20_2 : w10.cell? ⟨gb157, 2, none⟩ = some (.int .i64 a0_2) := (bC BK157.out 2).trans rfl
     have hcz20_3 : w10.cell? ⟨gb157, 3, none⟩ = some (.int .i64 a0_3) := (bC BK157.out 3).trans rfl
     have hcz20_4 : w10.cell? ⟨gb157, 4, none⟩ = some (.bool a0_4) := (bC BK157.out 4).trans rfl
     have hfz20_0 := bB BK157.out 0
     have hfz20_1 := bB BK157.out 1
     have hfz20_2 := bB BK157.out 2
     have hfz20_3 := bB BK157.out 3
     have hfz20_4 := bB BK157.out 4
     go_wp2
     go_meet
     case rel => exact ⟨_, (decide (a0_1 ≥ (l1.length : Int))), (by first | rfl | (simp; done) | (simp [*]; done)), H', ⟨by first | omega | exact Nat.le_refl _⟩, ⟨by (with_reducible repeat (first | refine bG ?_ _ | refine bH ?_ | refine bF ?_ _)); refine bW ?_ NB157_162.out _; (with_reducible repeat (first | refine bG ?_ _ | refine bH ?_ | refine bF ?_ _)); refine bW ?_ NB157_162.out _; (with_reducible repeat (first | refine bG ?_ _ | refine bH ?_ | refine bF ?_ _)); refine bW ?_ NB157_162.out _; (with_reducible repeat (first | refine bG ?_ _ | refine bH ?_ | refine bF ?_ _)); exact BK157.out⟩, ⟨by (with_reducible repeat (first | refine bG ?_ _ | refine bH ?_ | refine bF ?_ _)); refine bY (cs := #[.bool true, .bool t159, .bool false]) ?_ 2 _ rfl; (with_reducible repeat (first | refine bG ?_ _ | refine bH ?_ | refine bF ?_ _)); refine bY (cs := #[.bool true, .bool false, .bool false]) ?_ 1 _ rfl; (with_reducible repeat (first | refine bG ?_ _ | refine bH ?_ | refine bF ?_ _)); refine bY (cs := #[.bool false, .bool false, .bool false]) ?_ 0 _ rfl; (with_reducible repeat (first | refine bG ?_ _ | refine bH ?_ | refine bF ?_ _)); exact BK162.out⟩, ⟨by repeat (first | (with_reducible first | exact HB.out | apply bE | apply bA | apply bD | refine bJ ?_ GE157.out | refine bJ ?_ GE162.out) | exact HB.out)⟩⟩
   ·replace c13 := Bool.eq_false_iff.mpr c13
    subst c13
    have H1 : (stmt_Check.j0 k l1 a2 false a0_0 a0_1 a0_2 a0_3 a0_4 false t159 t160) = some r := by rw [if_neg (show ¬ (false = true) by decide)] at H; exact H
    clear H
    have H := H1
    clear H1
    have H' := Aside0.mk H
    clear H
    have hnb21 := NB162_157.out
    have hnc21 := NB157_162.out
    have hcz22_0 : w10.cell? ⟨gb162, 0, none⟩ = some (.bool false) := (bC BK162.out 0).trans rfl
    have hcz22_1 : w10.cell? ⟨gb162, 1, none⟩ = some (.bool false) := (bC BK162.out 1).trans rfl
    have hcz22_2 : w10.cell? ⟨gb162, 2, none⟩ = some (.bool false) := (bC BK162.out 2).trans rfl
    have hfz22_0 := bB BK162.out 0
    have hfz22_1 := bB BK162.out 1
    have hfz22_2 := bB BK162.out 2
    go_wp2
    go_meet
    case rel => exact ⟨_, (false), (by first | rfl | (simp; done) | (simp [*]; done)), H', ⟨by first | omega | exact Nat.le_refl _⟩, ⟨by (with_reducible repeat (first | refine bG ?_ _ | refine bH ?_ | refine bF ?_ _)); refine bW ?_ NB157_162.out _; (with_reducible repeat (first | refine bG ?_ _ | refine bH ?_ | refine bF ?_ _)); refine bW ?_ NB157_162.out _; (with_reducible repeat (first | refine bG ?_ _ | refine bH ?_ | refine bF ?_ _)); refine bW ?_ NB157_162.out _; (with_reducible repeat (first | refine bG ?_ _ | refine bH ?_ | refine bF ?_ _)); exact BK157.out⟩, ⟨by (with_reducible repeat (first | refine bG ?_ _ | refine bH ?_ | refine bF ?_ _)); refine bY (cs := #[.bool false, .bool t159, .bool false]) ?_ 2 _ rfl; (with_reducible repeat (first | refine bG ?_ _ | refine bH ?_ | refine bF ?_ _)); refine bY (cs := #[.bool false, .bool false, .bool false]) ?_ 1 _ rfl; (with_reducible repeat (first | refine bG ?_ _ | refine bH ?_ | refine bF ?_ _)); refine bY (cs := #[.bool false, .bool false, .bool false]) ?_ 0 _ rfl; (with_reducible repeat (first | refine bG ?_ _ | refine bH ?_ | refine bF ?_ _)); exact BK162.out⟩, ⟨by repeat (first | (with_reducible first | exact HB.out | apply bE | apply bA | apply bD | refine bJ ?_ GE157.out | refine bJ ?_ GE162.out) | exact HB.out)⟩⟩
  case rest =>
   clear HC6
   try clear c1
   try clear c2
   try clear p2
   try clear c4
   try clear c5
   try clear c6
   try clear c11
   try clear c13
   try clear c14
   try clear c14b0
   try clear c15
   try clear c18
   try clear c21
   try clear hcz12_0
   try clear hcz12_1
   try clear hcz12_2
   try clear hcz16_0
   try clear hcz16_1
   try clear hcz16_2
   try clear hcz17_0
   try clear hcz17_1
   try clear hcz17_2
   try clear hcz17_3
   try clear hcz17_4
   try clear hcz19_0
   try clear hcz19_1
   try clear hcz19_2
   try clear hcz20_0
   try clear hcz20_1
   try clear hcz20_2
   try clear hcz20_3
   try clear hcz20_4
   try clear hcz22_0
   try clear hcz22_1
   try clear hcz22_2
   try clear hcz8_0
   try clear hcz8_1
   try clear hcz8_2
   try clear hcz8_3
   try clear hcz8_4
   try clear hfz12_0
   try clear hfz12_1
   try clear hfz12_2
   try clear hfz16_0
   try clear hfz16_1
   try clear hfz16_2
   try clear hfz17_0
   try clear hfz17_1
   try clear hfz17_2
   try clear hfz17_3
   try clear hfz17_4
   try clear hfz19_0
   try clear hfz19_1
   try clear hfz19_2
   try clear hfz20_0
   try clear hfz20_1
   try clear hfz20_2
   try clear hfz20_3
   try clear hfz20_4
   try clear hfz22_0
   try clear hfz22_1
   try clear hfz22_2
   try clear hfz8_0
   try clear hfz8_1
   try clear hfz8_2
   try clear hfz8_3
   try clear hfz8_4
   obtain ⟨kq, x19_5, rfl, HA, HJ5, BK157, BK162, HB⟩ := hcut
   cases kq with
   | zero => exact absurd HA.out (by simp [stmt_Check.j0])
   | succ kj5 =>
    have H := HA.out
    clear HA
    simp only [stmt_Check.j0] at H
    by_cases c23 : x19_5 = true
    ·subst c23
     have H1 : (some 7) = some r := by rw [if_pos rfl] at H; exact H
     clear H
     have H := H1
     clear H1
     obtain rfl := Option.some.inj H
     go_wp2
     go_ret
     exact ⟨by first | rfl | (simp [errW_none, errW_some] <;> rfl) | (simp [*, errW_none, errW_some] <;> rfl), by repeat (first | (with_reducible first | exact HB.out | apply bE | apply bA | apply bD | refine bJ ?_ GE157.out | refine bJ ?_ GE162.out) | exact HB.out)⟩
    ·replace c23 := Bool.eq_false_iff.mpr c23
     subst c23
     have H1 : (if t159 = true then (if a0_2 < 0 then (stmt_Check.j1 kj5 l1 a2 true a0_0 a0_1 a0_2 a0_3 a0_4 t158 t159 t160) else (stmt_Check.j1 kj5 l1 a2 (decide (a0_2 ≥ (l1.length : Int))) a0_0 a0_1 a0_2 a0_3 a0_4 t158 t159 t160)) else (stmt_Check.j1 kj5 l1 a2 false a0_0 a0_1 a0_2 a0_3 a0_4 t158 t159 t160)) = some r := by rw [if_neg (show ¬ (false = true) by decide)] at H; exact H
     clear H
     have H := H1
     clear H1
     have HC24 := Aside0.mk H
     clear H
     go_upto_region 5 with (fail)
     go_cut [19] (fun v19 wc => ∃ (kq : Nat) (x19_23 : Bool), v19 = .bool x19_23 ∧ Aside0 (stmt_Check.j1 kq l1 a2 x19_23 a0_0 a0_1 a0_2 a0_3 a0_4 t158 t159 t160 = some r) ∧ Aside0 (kq ≤ kj5) ∧ Aside0 (wc.heap[gb157]? = some (.cells #[.int .i64 a0_0, .int .i64 a0_1, .int .i64 a0_2, .int .i64 a0_3, .bool a0_4] 23 (0, 0))) ∧ Aside0 (wc.heap[gb162]? = some (.cells #[.bool t158, .bool t159, .bool t160] 91 (0, 0))) ∧ Aside0 (Below w.heap.size w wc))
     case first =>
      have H := HC24.out
      clear HC24
      by_cases c25 : t159 = true
      ·subst c25
       have H1 : (if a0_2 < 0 then (stmt_Check.j1 kj5 l1 a2 true a0_0 a0_1 a0_2 a0_3 a0_4 t158 true t160) else (stmt_Check.j1 kj5 l1 a2 (decide (a0_2 ≥ (l1.length : Int))) a0_0 a0_1 a0_2 a0_3 a0_4 t158 true t160)) = some r := by rw [if_pos rfl] at H; exact H
       clear H
       have H := H1
       clear H1
       by_cases c26 : a0_2 < 0
       ·rw [if_pos c26] at H
        have c26b0 : decide (a0_2 < 0) = true := decide_eq_true c26
        clear c26
        (first | rw [c26b0] | (simp only [bL, bM]; rw [c26b0]) | skip)
        have H' := Aside0.mk H
        clear H
        have hnb27 := NB162_157.out
        have hnc27 := NB157_162.out
        have hcz28_0 : wc.cell? ⟨gb162, 0, none⟩ = some (.bool t158) := (bC BK162.out 0).trans rfl
        have hcz28_1 : wc.cell? ⟨gb162, 1, none⟩ = some (.bool true) := (bC BK162.out 1).trans rfl
        have hcz28_2 : wc.cell? ⟨gb162, 2, none⟩ = some (.bool t160) := (bC BK162.out 2).trans rfl
        have hfz28_0 := bB BK162.out 0
        have hfz28_1 := bB BK162.out 1
        have hfz28_2 := bB BK162.out 2
        have hcz29_0 : wc.cell? ⟨gb157, 0, none⟩ = some (.int .i64 a0_0) := (bC BK157.out 0).trans rfl
        have hcz29_1 : wc.cell? ⟨gb157, 1, none⟩ = some (.int .i64 a0_1) := (bC BK157.out 1).trans rfl
        have hcz29_2 : wc.cell? ⟨gb157, 2, none⟩ = some (.int .i64 a0_2) := (bC BK157.out 2).trans rfl
        have hcz29_3 : wc.cell? ⟨gb157, 3, none⟩ = some (.int .i64 a0_3) := (bC BK157.out 3).trans rfl
        have hcz29_4 : wc.cell? ⟨gb157, 4, none⟩ = some (.bool a0_4) := (bC BK157.out 4).trans rfl
        have hfz29_0 := bB BK157.out 0
        have hfz29_1 := bB BK157.out 1
        have hfz29_2 := bB BK157.out 2
        have hfz29_3 := bB BK157.out 3
        have hfz29_4 := bB BK157.out 4
        go_wp2
        go_meet
        case rel => exact ⟨_, (true), (by first | rfl | (simp; done) | (simp [*]; done)), H', ⟨by have := HJ5.out; first | omega | exact Nat.le_refl _⟩, ⟨by (with_reducible repeat (first | refine bG ?_ _ | refine bH ?_ | refine bF ?_ _)); exact BK157.out⟩, ⟨by (with_reducible repeat (first | refine bG ?_ _ | refine bH ?_ | refine bF ?_ _)); exact BK162.out⟩, ⟨by repeat (first | (with_reducible first | exact HB.out | apply bE | apply bA | apply bD | refine bJ ?_ GE157.out | refine bJ ?_ GE162.out) | exact HB.out)⟩⟩
       ·rw [if_neg c26] at H
        have c26b0 : decide (a0_2 < 0) = false := decide_eq_false c26
        clear c26
        (first | rw [c26b0] | (simp only [bL, bM]; rw [c26b0]) | skip)
        have H' := Aside0.mk H
        clear H
        have hnb30 := NB162_157.out
        have hnc30 := NB157_162.out
        have hcz31_0 : wc.cell? ⟨gb162, 0, none⟩ = some (.bool t158) := (bC BK162.out 0).trans rfl
        have hcz31_1 : wc.cell? ⟨gb162, 1, none⟩ = some (.bool true) := (bC BK162.out 1).trans rfl
        have hcz31_2 : wc.cell? ⟨gb162, 2, none⟩ = some (.bool t160) := (bC BK162.out 2).trans rfl
        have hfz31_0 := bB BK162.out 0
        have hfz31_1 := bB BK162.out 1
        have hfz31_2 := bB BK162.out 2
        have hcz32_0 : wc.cell? ⟨gb157, 0, none⟩ = some (.int .i64 a0_0) := (bC BK157.out 0).trans rfl
        have hcz32_1 : wc.cell? ⟨gb157, 1, none⟩ = some (.int .i64 a0_1) := (bC BK157.out 1).trans rfl
        have hcz32_2 : wc.cell? ⟨gb157, 2, none⟩ = some (.int .i64 a0_2) := (bC BK157.out 2).trans rfl
        have hcz32_3 : wc.cell? ⟨gb157, 3, none⟩ = some (.int .i64 a0_3) := (bC BK157.out 3).trans rfl
        have hcz32_4 : wc.cell? ⟨gb157, 4, none⟩ = some (.bool a0_4) := (bC BK157.out 4).trans rfl
        have hfz32_0 := bB BK157.out 0
        have hfz32_1 := bB BK157.out 1
        have hfz32_2 := bB BK157.out 2
        have hfz32_3 := bB BK157.out 3
        have hfz32_4 := bB BK157.out 4
        go_wp2
        go_meet
        case rel => exact ⟨_, (decide (a0_2 ≥ (l1.length : Int))), (by first | rfl | (simp; done) | (simp [*]; done)), H', ⟨by have := HJ5.out; first | omega | exact Nat.le_refl _⟩, ⟨by (with_reducible repeat (first | refine bG ?_ _ | refine bH ?_ | refine bF ?_ _)); exact BK157.out⟩, ⟨by (with_reducible repeat (first | refine bG ?_ _ | refine bH ?_ | refine bF ?_ _)); exact BK162.out⟩, ⟨by repeat (first | (with_reducible first | exact HB.out | apply bE | apply bA | apply bD | refine bJ ?_ GE157.out | refine bJ ?_ GE162.out) | exact HB.out)⟩⟩
      ·replace c25 := Bool.eq_false_iff.mpr c25
       subst c25
       have H1 : (stmt_Check.j1 kj5 l1 a2 false a0_0 a0_1 a0_2 a0_3 a0_4 t158 false t160) = some r := by rw [if_neg (show ¬ (false = true) by decide)] at H; exact H
       clear H
       have H := H1
       clear H1
       have H' := Aside0.mk H
       clear H
       have hnb33 := NB162_157.out
       have hnc33 := NB157_162.out
       have hcz34_0 : wc.cell? ⟨gb162, 0, none⟩ = some (.bool t158) := (bC BK162.out 0).trans rfl
       have hcz34_1 : wc.cell? ⟨gb162, 1, none⟩ = some (.bool false) := (bC BK162.out 1).trans rfl
       have hcz34_2 : wc.cell? ⟨gb162, 2, none⟩ = some (.bool t160) := (bC BK162.out 2).trans rfl
       have hfz34_0 := bB BK162.out 0
       have hfz34_1 := bB BK162.out 1
       have hfz34_2 := bB BK162.out 2
       go_wp2
       go_meet
       case rel => exact ⟨_, (false), (by first | rfl | (simp; done) | (simp [*]; done)), H', ⟨by have := HJ5.out; first | omega | exact Nat.le_refl _⟩, ⟨by (with_reducible repeat (first | refine bG ?_ _ | refine bH ?_ | refine bF ?_ _)); exact BK157.out⟩, ⟨by (with_reducible repeat (first | refine bG ?_ _ | refine bH ?_ | refine bF ?_ _)); exact BK162.out⟩, ⟨by repeat (first | (with_reducible first | exact HB.out | apply bE | apply bA | apply bD | refine bJ ?_ GE157.out | refine bJ ?_ GE162.out) | exact HB.out)⟩⟩
     case rest =>
      clear HC24
      try clear c1
      try clear c2
      try clear p2
      try clear c3
      try clear c4
      try clear c5
      try clear c6
      try clear c11
      try clear c13
      try clear c14
      try clear c14b0
      try clear c15
      try clear c18
      try clear c21
      try clear c23
      try clear c25
      try clear c26
      try clear c26b0
      try clear c27
      try clear c30
      try clear c33
      try clear hcz12_0
      try clear hcz12_1
      try clear hcz12_2
      try clear hcz16_0
      try clear hcz16_1
      try clear hcz16_2
      try clear hcz17_0
      try clear hcz17_1
      try clear hcz17_2
      try clear hcz17_3
      try clear hcz17_4
      try clear hcz19_0
      try clear hcz19_1
      try clear hcz19_2
      try clear hcz20_0
      try clear hcz20_1
      try clear hcz20_2
      try clear hcz20_3
      try clear hcz20_4
      try clear hcz22_0
      try clear hcz22_1
      try clear hcz22_2
      try clear hcz28_0
      try clear hcz28_1
      try clear hcz28_2
      try clear hcz29_0
      try clear hcz29_1
      try clear hcz29_2
      try clear hcz29_3
      try clear hcz29_4
      try clear hcz31_0
      try clear hcz31_1
      try clear hcz31_2
      try clear hcz32_0
      try clear hcz32_1
      try clear hcz32_2
      try clear hcz32_3
      try clear hcz32_4
      try clear hcz34_0
      try clear hcz34_1
      try clear hcz34_2
      try clear hcz8_0
      try clear hcz8_1
      try clear hcz8_2
      try clear hcz8_3
      try clear hcz8_4
      try clear hfz12_0
      try clear hfz12_1
      try clear hfz12_2
      try clear hfz16_0
      try clear hfz16_1
      try clear hfz16_2
      try clear hfz17_0
      try clear hfz17_1
      try clear hfz17_2
      try clear hfz17_3
      try clear hfz17_4
      try clear hfz19_0
      try clear hfz19_1
      try clear hfz19_2
      try clear hfz20_0
      try clear hfz20_1
      try clear hfz20_2
      try clear hfz20_3
      try clear hfz20_4
      try clear hfz22_0
      try clear hfz22_1
      try clear hfz22_2
      try clear hfz28_0
      try clear hfz28_1
      try clear hfz28_2
      try clear hfz29_0
      try clear hfz29_1
      try clear hfz29_2
      try clear hfz29_3
      try clear hfz29_4
      try clear hfz31_0
      try clear hfz31_1
      try clear hfz31_2
      try clear hfz32_0
      try clear hfz32_1
      try clear hfz32_2
      try clear hfz32_3
      try clear hfz32_4
      try clear hfz34_0
      try clear hfz34_1
      try clear hfz34_2
      try clear hfz8_0
      try clear hfz8_1
      try clear hfz8_2
      try clear hfz8_3
      try clear hfz8_4
      try clear p2
      obtain ⟨kq, x19_23, rfl, HA, HJ23, BK157, BK162, HB⟩ := hcut
      cases kq with
      | zero => exact absurd HA.out (by simp [stmt_Check.j1])
      | succ kj23 =>
       have H := HA.out
       clear HA
       simp only [stmt_Check.j1] at H
       by_cases c35 : x19_23 = true
       ·subst c35
        have H1 : (some 7) = some r := by rw [if_pos rfl] at H; exact H
        clear H
        have H := H1
        clear H1
        obtain rfl := Option.some.inj H
        go_wp2
        go_ret
        exact ⟨by first | rfl | (simp [errW_none, errW_some] <;> rfl) | (simp [*, errW_none, errW_some] <;> rfl), by repeat (first | (with_reducible first | exact HB.out | apply bE | apply bA | apply bD | refine bJ ?_ GE157.out | refine bJ ?_ GE162.out) | exact HB.out)⟩
       ·replace c35 := Bool.eq_false_iff.mpr c35
        subst c35
        have H1 : (if t160 = true then (if a0_3 < 0 then (some 7) else (if a0_3 ≥ a2 then (some 7) else ((stmt_needs.f a0_0 a0_1 a0_2 a0_3 a0_4 l1).bind fun bt163 => (some bt163.2)))) else ((stmt_needs.f a0_0 a0_1 a0_2 a0_3 a0_4 l1).bind fun bt167 => (some bt167.2))) = some r := by rw [if_neg (show ¬ (false = true) by decide)] at H; exact H
        clear H
        have H := H1
        clear H1
        by_cases c36 : t160 = true
        ·subst c36
         have H1 : (if a0_3 < 0 then (some 7) else (if a0_3 ≥ a2 then (some 7) else ((stmt_needs.f a0_0 a0_1 a0_2 a0_3 a0_4 l1).bind fun bt163 => (some bt163.2)))) = some r := by rw [if_pos rfl] at H; exact H
         clear H
         have H := H1
         clear H1
         by_cases c37 : a0_3 < 0
         ·rw [if_pos c37] at H
          have c37b0 : decide (a0_3 < 0) = true := decide_eq_true c37
          clear c37
          obtain rfl := Option.some.inj H
          have hnb38 := NB162_157.out
          have hnc38 := NB157_162.out
          have hcz39_0 : wc.cell? ⟨gb162, 0, none⟩ = some (.bool t158) := (bC BK162.out 0).trans rfl
          have hcz39_1 : wc.cell? ⟨gb162, 1, none⟩ = some (.bool t159) := (bC BK162.out 1).trans rfl
          have hcz39_2 : wc.cell? ⟨gb162, 2, none⟩ = some (.bool true) := (bC BK162.out 2).trans rfl
          have hfz39_0 := bB BK162.out 0
          have hfz39_1 := bB BK162.out 1
          have hfz39_2 := bB BK162.out 2
          have hcz40_0 : wc.cell? ⟨gb157, 0, none⟩ = some (.int .i64 a0_0) := (bC BK157.out 0).trans rfl
          have hcz40_1 : wc.cell? ⟨gb157, 1, none⟩ = some (.int .i64 a0_1) := (bC BK157.out 1).trans rfl
          have hcz40_2 : wc.cell? ⟨gb157, 2, none⟩ = some (.int .i64 a0_2) := (bC BK157.out 2).trans rfl
          have hcz40_3 : wc.cell? ⟨gb157, 3, none⟩ = some (.int .i64 a0_3) := (bC BK157.out 3).trans rfl
          have hcz40_4 : wc.cell? ⟨gb157, 4, none⟩ = some (.bool a0_4) := (bC BK157.out 4).trans rfl
          have hfz40_0 := bB BK157.out 0
          have hfz40_1 := bB BK157.out 1
          have hfz40_2 := bB BK157.out 2
          have hfz40_3 := bB BK157.out 3
          have hfz40_4 := bB BK157.out 4
          go_wp2
          go_ret
          exact ⟨by first | rfl | (simp [errW_none, errW_some] <;> rfl) | (simp [*, errW_none, errW_some] <;> rfl), by repeat (first | (with_reducible first | exact HB.out | apply bE | apply bA | apply bD | refine bJ ?_ GE157.out | refine bJ ?_ GE162.out) | exact HB.out)⟩
         ·rw [if_neg c37] at H
          have c37b0 : decide (a0_3 < 0) = false := decide_eq_false c37
          clear c37
          by_cases c41 : a0_3 ≥ a2
          ·rw [if_pos c41] at H
           have c41b0 : decide (a2 ≤ a0_3) = true := decide_eq_true c41
           clear c41
           obtain rfl := Option.some.inj H
           have hnb42 := NB162_157.out
           have hnc42 := NB157_162.out
           have hcz43_0 : wc.cell? ⟨gb162, 0, none⟩ = some (.bool t158) := (bC BK162.out 0).trans rfl
           have hcz43_1 : wc.cell? ⟨gb162, 1, none⟩ = some (.bool t159) := (bC BK162.out 1).trans rfl
           have hcz43_2 : wc.cell? ⟨gb162, 2, none⟩ = some (.bool true) := (bC BK162.out 2).trans rfl
           have hfz43_0 := bB BK162.out 0
           have hfz43_1 := bB BK162.out 1
           have hfz43_2 := bB BK162.out 2
           have hcz44_0 : wc.cell? ⟨gb157, 0, none⟩ = some (.int .i64 a0_0) := (bC BK157.out 0).trans rfl
           have hcz44_1 : wc.cell? ⟨gb157, 1, none⟩ = some (.int .i64 a0_1) := (bC BK157.out 1).trans rfl
           have hcz44_2 : wc.cell? ⟨gb157, 2, none⟩ = some (.int .i64 a0_2) := (bC BK157.out 2).trans rfl
           have hcz44_3 : wc.cell? ⟨gb157, 3, none⟩ = some (.int .i64 a0_3) := (bC BK157.out 3).trans rfl
           have hcz44_4 : wc.cell? ⟨gb157, 4, none⟩ = some (.bool a0_4) := (bC BK157.out 4).trans rfl
           have hfz44_0 := bB BK157.out 0
           have hfz44_1 := bB BK157.out 1
           have hfz44_2 := bB BK157.out 2
           have hfz44_3 := bB BK157.out 3
           have hfz44_4 := bB BK157.out 4
           go_wp2
           go_ret
           exact ⟨by first | rfl | (simp [errW_none, errW_some] <;> rfl) | (simp [*, errW_none, errW_some] <;> rfl), by repeat (first | (with_reducible first | exact HB.out | apply bE | apply bA | apply bD | refine bJ ?_ GE157.out | refine bJ ?_ GE162.out) | exact HB.out)⟩
          ·rw [if_neg c41] at H
           have c41b0 : decide (a2 ≤ a0_3) = false := decide_eq_false c41
           clear c41
           replace H := Option.bind_eq_some_iff.mp H
           obtain ⟨⟨t163, t166⟩, A450, H⟩ := H
           replace H : (some t166) = some r := H
           have A45 := Aside0.mk A450
           clear A450
           obtain rfl := Option.some.inj H
           have hnb46 := NB162_157.out
           have hnc46 := NB157_162.out
           have hcz47_0 : wc.cell? ⟨gb162, 0, none⟩ = some (.bool t158) := (bC BK162.out 0).trans rfl
           have hcz47_1 : wc.cell? ⟨gb162, 1, none⟩ = some (.bool t159) := (bC BK162.out 1).trans rfl
           have hcz47_2 : wc.cell? ⟨gb162, 2, none⟩ = some (.bool true) := (bC BK162.out 2).trans rfl
           have hfz47_0 := bB BK162.out 0
           have hfz47_1 := bB BK162.out 1
           have hfz47_2 := bB BK162.out 2
           have hcz48_0 : wc.cell? ⟨gb157, 0, none⟩ = some (.int .i64 a0_0) := (bC BK157.out 0).trans rfl
           have hcz48_1 : wc.cell? ⟨gb157, 1, none⟩ = some (.int .i64 a0_1) := (bC BK157.out 1).trans rfl
           have hcz48_2 : wc.cell? ⟨gb157, 2, none⟩ = some (.int .i64 a0_2) := (bC BK157.out 2).trans rfl
           have hcz48_3 : wc.cell? ⟨gb157, 3, none⟩ = some (.int .i64 a0_3) := (bC BK157.out 3).trans rfl
           have hcz48_4 : wc.cell? ⟨gb157, 4, none⟩ = some (.bool a0_4) := (bC BK157.out 4).trans rfl
           have hfz48_0 := bB BK157.out 0
           have hfz48_1 := bB BK157.out 1
           have hfz48_2 := bB BK157.out 2
           have hfz48_3 := bB BK157.out 3
           have hfz48_4 := bB BK157.out 4
           go_wp2_with (first | ((with_reducible refine bV (f := 87) rfl ?_); refine goesL_ (some 64) rfl rfl Try.func87 (by kernel_rfl) rfl #[.agg #[.int .i64 a0_0, .int .i64 a0_1, .int .i64 a0_2, .int .i64 a0_3, .bool a0_4], .slice A1 l1.length c1] rfl (by (try simp only [List.map_toArray, List.map_cons, List.map_nil]); first | done | rfl | (simp only [List.length_drop, List.length_take]; rfl)) ?_; (with_reducible refine (stmt_needs.calls a0_0 a0_1 a0_2 a0_3 a0_4 _ _ l1 t163 t166 _ ?side1 ?side2 A45.out).mono ?_); (case side1 => repeat (first | exact (Kd.bZ HR1.out HB.out) | (with_reducible refine Kd.C_alloc ?_ _) | (with_reducible refine Kd.C_drewN ?_ _) | (with_reducible refine Kd.C_drew ?_))); (case side2 => exact HC1.out); rintro e w49 ⟨v164, rfl, ho0, hb⟩; refine ⟨_, rfl, ?_⟩; have n0_ := Aside0.mk (Kd.R_lower ho0 (bK (by repeat (first | (with_reducible first | exact HB.out | apply bE | apply bA | apply bD | refine bJ ?_ GE157.out | refine bJ ?_ GE162.out) | exact HB.out)))); have n1_ := Aside0.mk (bU (g := gb157) (o := .cells #[.int .i64 a0_0, .int .i64 a0_1, .int .i64 a0_2, .int .i64 a0_3, .bool a0_4] 23 (0, 0)) (by (with_reducible repeat (first | refine bG ?_ _ | refine bH ?_ | refine bF ?_ _)); exact BK157.out) hb); have n2_ := Aside0.mk (bU (g := gb162) (o := .cells #[.bool t158, .bool t159, .bool true] 91 (0, 0)) (by (with_reducible repeat (first | refine bG ?_ _ | refine bH ?_ | refine bF ?_ _)); exact BK162.out) hb); have n3_ := Aside0.mk (bP (by repeat (first | (with_reducible first | exact HB.out | apply bE | apply bA | apply bD | refine bJ ?_ GE157.out | refine bJ ?_ GE162.out) | exact HB.out)) hb); clear BK157; clear BK162; clear HB; have HO165 := n0_; have BK157 := n1_; have BK162 := n2_; have HB := n3_; clear n0_ n1_ n2_ n3_; (try clear hb); (try clear hb2); (try clear hk); (try clear hi); (try clear ho0)))
           go_ret
           exact ⟨by first | rfl | (simp [errW_none, errW_some] <;> rfl) | (simp [*, errW_none, errW_some] <;> rfl), by repeat (first | (with_reducible first | exact HB.out | apply bE | apply bA | apply bD | refine bJ ?_ GE157.out | refine bJ ?_ GE162.out) | exact HB.out)⟩
        ·replace c36 := Bool.eq_false_iff.mpr c36
         subst c36
         have H1 : ((stmt_needs.f a0_0 a0_1 a0_2 a0_3 a0_4 l1).bind fun bt167 => (some bt167.2)) = some r := by rw [if_neg (show ¬ (false = true) by decide)] at H; exact H
         clear H
         have H := H1
         clear H1
         replace H := Option.bind_eq_some_iff.mp H
         obtain ⟨⟨t167, t170⟩, A500, H⟩ := H
         replace H : (some t170) = some r := H
         have A50 := Aside0.mk A500
         clear A500
         obtain rfl := Option.some.inj H
         have hnb51 := NB162_157.out
         have hnc51 := NB157_162.out
         have hcz52_0 : wc.cell? ⟨gb162, 0, none⟩ = some (.bool t158) := (bC BK162.out 0).trans rfl
         have hcz52_1 : wc.cell? ⟨gb162, 1, none⟩ = some (.bool t159) := (bC BK162.out 1).trans rfl
         have hcz52_2 : wc.cell? ⟨gb162, 2, none⟩ = some (.bool false) := (bC BK162.out 2).trans rfl
         have hfz52_0 := bB BK162.out 0
         have hfz52_1 := bB BK162.out 1
         have hfz52_2 := bB BK162.out 2
         have hcz53_0 : wc.cell? ⟨gb157, 0, none⟩ = some (.int .i64 a0_0) := (bC BK157.out 0).trans rfl
         have hcz53_1 : wc.cell? ⟨gb157, 1, none⟩ = some (.int .i64 a0_1) := (bC BK157.out 1).trans rfl
         have hcz53_2 : wc.cell? ⟨gb157, 2, none⟩ = some (.int .i64 a0_2) := (bC BK157.out 2).trans rfl
         have hcz53_3 : wc.cell? ⟨gb157, 3, none⟩ = some (.int .i64 a0_3) := (bC BK157.out 3).trans rfl
         have hcz53_4 : wc.cell? ⟨gb157, 4, none⟩ = some (.bool a0_4) := (bC BK157.out 4).trans rfl
         have hfz53_0 := bB BK157.out 0
         have hfz53_1 := bB BK157.out 1
         have hfz53_2 := bB BK157.out 2
         have hfz53_3 := bB BK157.out 3
         have hfz53_4 := bB BK157.out 4
         go_wp2_with (first | ((with_reducible refine bV (f := 87) rfl ?_); refine goesL_ (some 64) rfl rfl Try.func87 (by kernel_rfl) rfl #[.agg #[.int .i64 a0_0, .int .i64 a0_1, .int .i64 a0_2, .int .i64 a0_3, .bool a0_4], .slice A1 l1.length c1] rfl (by (try simp only [List.map_toArray, List.map_cons, List.map_nil]); first | done | rfl | (simp only [List.length_drop, List.length_take]; rfl)) ?_; (with_reducible refine (stmt_needs.calls a0_0 a0_1 a0_2 a0_3 a0_4 _ _ l1 t167 t170 _ ?side1 ?side2 A50.out).mono ?_); (case side1 => repeat (first | exact (Kd.bZ HR1.out HB.out) | (with_reducible refine Kd.C_alloc ?_ _) | (with_reducible refine Kd.C_drewN ?_ _) | (with_reducible refine Kd.C_drew ?_))); (case side2 => exact HC1.out); rintro e w54 ⟨v168, rfl, ho0, hb⟩; refine ⟨_, rfl, ?_⟩; have n0_ := Aside0.mk (Kd.R_lower ho0 (bK (by repeat (first | (with_reducible first | exact HB.out | apply bE | apply bA | apply bD | refine bJ ?_ GE157.out | refine bJ ?_ GE162.out) | exact HB.out)))); have n1_ := Aside0.mk (bU (g := gb157) (o := .cells #[.int .i64 a0_0, .int .i64 a0_1, .int .i64 a0_2, .int .i64 a0_3, .bool a0_4] 23 (0, 0)) (by (with_reducible repeat (first | refine bG ?_ _ | refine bH ?_ | refine bF ?_ _)); exact BK157.out) hb); have n2_ := Aside0.mk (bU (g := gb162) (o := .cells #[.bool t158, .bool t159, .bool false] 91 (0, 0)) (by (with_reducible repeat (first | refine bG ?_ _ | refine bH ?_ | refine bF ?_ _)); exact BK162.out) hb); have n3_ := Aside0.mk (bP (by repeat (first | (with_reducible first | exact HB.out | apply bE | apply bA | apply bD | refine bJ ?_ GE157.out | refine bJ ?_ GE162.out) | exact HB.out)) hb); clear BK157; clear BK162; clear HB; have HO169 := n0_; have BK157 := n1_; have BK162 := n2_; have HB := n3_; clear n0_ n1_ n2_ n3_; (try clear hb); (try clear hb2); (try clear hk); (try clear hi); (try clear ho0)))
         go_ret
         exact ⟨by first | rfl | (simp [errW_none, errW_some] <;> rfl) | (simp [*, errW_none, errW_some] <;> rfl), by repeat (first | (with_reducible first | exact HB.out | apply bE | apply bA | apply bD | refine bJ ?_ GE157.out | refine bJ ?_ GE162.out) | exact HB.out)⟩
 ·replace c5 := Bool.eq_false_iff.mpr c5
  subst c5
  have H1 : (some 3) = some r := by rw [if_neg (show ¬ (false = true) by decide)] at H; exact H
  clear H
  have H := H1
  clear H1
  obtain rfl := Option.some.inj H
  go_enter Try.func40, Try.ntmps40
  go_wp2_with (first | ((with_reducible refine bT (N := 3) rfl ?_); (try (refine gate_guard (by rfl) ?_; dsimp only)); refine bS ?hg (N := 3) ?hd (cs := #[.int .i64 a0_0, .int .i64 a0_1, .int .i64 a0_2, .int .i64 a0_3, .bool a0_4]) (t := 23) ?hr ?_; (case hd => rfl); (case hg => rfl); (case hr => first | (go_simp; done) | (go_simp; rfl)); intro gb157 hg w55 hbox hb; have n0_ := Aside0.mk (bP (by repeat (first | (with_reducible first | exact HB.out | apply bE | apply bA | apply bD) | exact HB.out)) hb); have n1_ := Aside0.mk (hbox); have n2_ := Aside0.mk ((by rw [hg]; exact (bK (by repeat (first | (with_reducible first | exact HB.out | apply bE | apply bA | apply bD) | exact HB.out))) : w.heap.size ≤ gb157)); have n3_ := Aside0.mk ((by rw [hg]; exact (bK (by repeat (first | (with_reducible first | exact HB.out | apply bE | apply bA | apply bD) | exact HB.out))) : w.heap.size ≤ gb157)); clear HB; have HB := n0_; have BK157 := n1_; have GW157 := n2_; have GE157 := n3_; clear n0_ n1_ n2_ n3_; clear hb hbox hg; have hcz56_0 : w55.cell? ⟨gb157, 0, none⟩ = some (.int .i64 a0_0) := (bC BK157.out 0).trans rfl; have hcz56_1 : w55.cell? ⟨gb157, 1, none⟩ = some (.int .i64 a0_1) := (bC BK157.out 1).trans rfl; have hcz56_2 : w55.cell? ⟨gb157, 2, none⟩ = some (.int .i64 a0_2) := (bC BK157.out 2).trans rfl; have hcz56_3 : w55.cell? ⟨gb157, 3, none⟩ = some (.int .i64 a0_3) := (bC BK157.out 3).trans rfl; have hcz56_4 : w55.cell? ⟨gb157, 4, none⟩ = some (.bool a0_4) := (bC BK157.out 4).trans rfl; have hfz56_0 := bB BK157.out 0; have hfz56_1 := bB BK157.out 1; have hfz56_2 := bB BK157.out 2; have hfz56_3 := bB BK157.out 3; have hfz56_4 := bB BK157.out 4) | ((with_reducible refine bV (f := 64) rfl ?_); refine goesL_ (some 13) rfl rfl Try.func64 (by kernel_rfl) rfl #[.agg #[.int .i64 a0_0, .int .i64 a0_1, .int .i64 a0_2, .int .i64 a0_3, .bool a0_4]] rfl (by (try simp only [List.map_toArray, List.map_cons, List.map_nil]); first | done | rfl | (simp only [List.length_drop, List.length_take]; rfl)) ?_; (with_reducible refine (stmt_form.calls k a0_0 a0_1 a0_2 a0_3 a0_4 t158 t159 t160 false _ A4.out).mono ?_); rintro e w57 ⟨rfl, hb⟩; refine ⟨_, rfl, ?_⟩; have n0_ := Aside0.mk (bU (g := gb157) (o := .cells #[.int .i64 a0_0, .int .i64 a0_1, .int .i64 a0_2, .int .i64 a0_3, .bool a0_4] 23 (0, 0)) (by (with_reducible repeat (first | refine bG ?_ _ | refine bH ?_ | refine bF ?_ _)); exact BK157.out) hb); have n1_ := Aside0.mk (bP (by repeat (first | (with_reducible first | exact HB.out | apply bE | apply bA | apply bD | refine bJ ?_ GE157.out) | exact HB.out)) hb); clear BK157; clear HB; have BK157 := n0_; have HB := n1_; clear n0_ n1_; (try clear hb); (try clear hb2); (try clear hk); (try clear hi)) | ((with_reducible refine bT (N := 7) rfl ?_); (try (refine gate_guard (by rfl) ?_; dsimp only)); refine bS ?hg (N := 7) ?hd (cs := #[.bool false, .bool false, .bool false]) (t := 91) ?hr ?_; (case hd => rfl); (case hg => rfl); (case hr => first | (go_simp; done) | (go_simp; rfl)); intro gb162 hg w58 hbox hb; have n0_ := Aside0.mk (bU (g := gb157) (o := .cells #[.int .i64 a0_0, .int .i64 a0_1, .int .i64 a0_2, .int .i64 a0_3, .bool a0_4] 23 (0, 0)) (by (with_reducible repeat (first | refine bG ?_ _ | refine bH ?_ | refine bF ?_ _)); exact BK157.out) hb); have n1_ := Aside0.mk (bP (by repeat (first | (with_reducible first | exact HB.out | apply bE | apply bA | apply bD | refine bJ ?_ GE157.out) | exact HB.out)) hb); have n2_ := Aside0.mk (hbox); have n3_ := Aside0.mk ((by rw [hg]; exact (bK (by repeat (first | (with_reducible first | exact HB.out | apply bE | apply bA | apply bD | refine bJ ?_ GE157.out) | exact HB.out))) : w.heap.size ≤ gb162)); have n4_ := Aside0.mk ((by rw [hg]; exact (bK (by repeat (first | (with_reducible first | exact HB.out | apply bE | apply bA | apply bD | refine bJ ?_ GE157.out) | exact HB.out))) : w.heap.size ≤ gb162)); have n5_ := Aside0.mk ((by rw [hg]; exact Nat.ne_of_lt (blk_lt (g := gb157) (o := .cells #[.int .i64 a0_0, .int .i64 a0_1, .int .i64 a0_2, .int .i64 a0_3, .bool a0_4] 23 (0, 0)) (by (with_reducible repeat (first | refine bG ?_ _ | refine bH ?_ | refine bF ?_ _)); exact BK157.out)) : gb157 ≠ gb162)); have n6_ := Aside0.mk ((by rw [hg]; exact Nat.ne_of_gt (blk_lt (g := gb157) (o := .cells #[.int .i64 a0_0, .int .i64 a0_1, .int .i64 a0_2, .int .i64 a0_3, .bool a0_4] 23 (0, 0)) (by (with_reducible repeat (first | refine bG ?_ _ | refine bH ?_ | refine bF ?_ _)); exact BK157.out)) : gb162 ≠ gb157)); clear BK157; clear HB; have BK157 := n0_; have HB := n1_; have BK162 := n2_; have GW162 := n3_; have GE162 := n4_; have NB157_162 := n5_; have NB162_157 := n6_; clear n0_ n1_ n2_ n3_ n4_ n5_ n6_; clear hb hbox hg; have hnb59 := NB162_157.out; have hnc59 := NB157_162.out; have hcz60_0 : w58.cell? ⟨gb162, 0, none⟩ = some (.bool false) := (bC BK162.out 0).trans rfl; have hcz60_1 : w58.cell? ⟨gb162, 1, none⟩ = some (.bool false) := (bC BK162.out 1).trans rfl; have hcz60_2 : w58.cell? ⟨gb162, 2, none⟩ = some (.bool false) := (bC BK162.out 2).trans rfl; have hfz60_0 := bB BK162.out 0; have hfz60_1 := bB BK162.out 1; have hfz60_2 := bB BK162.out 2))
  go_ret
  exact ⟨by first | rfl | (simp [errW_none, errW_some] <;> rfl) | (simp [*, errW_none, errW_some] <;> rfl), by repeat (first | (with_reducible first | exact HB.out | apply bE | apply bA | apply bD | refine bJ ?_ GE157.out | refine bJ ?_ GE162.out) | exact HB.out)⟩

/-! ### stmt_Needs: function 36 -/
def stmt_Needs.f (k : Nat) (a0_0 : Int) (a0_1 : Int) (a0_2 : Int) (a0_3 : Int) (a0_4 : Bool) (l1 : List (S44)) (a2 : Int) : Option ((List (S129)) × Int) := (stmt_Check.f k a0_0 a0_1 a0_2 a0_3 a0_4 l1 a2).bind fun t172 => (if t172 = 0 then ((stmt_needs.f a0_0 a0_1 a0_2 a0_3 a0_4 l1).bind fun bt173 => (some (bt173.1, bt173.2))) else (some (([] : List (S129)), t172)))
theorem stmt_Needs.mono : ∀ a0 a1 a2 a3 a4 a5 a6 k, LeO (stmt_Needs.f k a0 a1 a2 a3 a4 a5 a6) (stmt_Needs.f (k + 1) a0 a1 a2 a3 a4 a5 a6) := by
 intro a0 a1 a2 a3 a4 a5 a6 k
 unfold stmt_Needs.f
 repeat' first
   | (with_reducible exact stmt_Check.mono _ _ _ _ _ _ _ _)
   | (with_reducible exact LeO.refl _)
   | (with_reducible exact LeO.none _)
   | (with_reducible refine LeO.ite ?_ ?_)
   | (with_reducible refine LeO.bind ?_ (fun _ => ?_))
   | exact stmt_Check.mono _ _ _ _ _ _ _ _
   | exact LeO.none _
   | refine LeO.ite ?_ ?_
   | refine LeO.bind ?_ (fun _ => ?_)
set_option maxHeartbeats 8000000 in
set_option maxRecDepth 100000 in
theorem stmt_Needs.calls (k : Nat) (a0_0 : Int) (a0_1 : Int) (a0_2 : Int) (a0_3 : Int) (a0_4 : Bool) (A1 : Option Addr) (c1 : Nat) (l1 : List (S44)) (a2 : Int) (r1 : List (S129)) (r2 : Int) (w : World) (hr1 : Kd.C k44 w A1 l1.length l1) (hc1 : l1.length ≤ c1) (h : stmt_Needs.f k a0_0 a0_1 a0_2 a0_3 a0_4 l1 a2 = some (r1, r2)) :
  Calls Try.prog 36 #[.agg #[.int .i64 a0_0, .int .i64 a0_1, .int .i64 a0_2, .int .i64 a0_3, .bool a0_4], .slice A1 l1.length c1, .int .i64 a2] w fun e w' => ∃ v0_ : Value, e = .returned (.tuple #[v0_, .int .i64 r2]) ∧ Kd.R k129 129 w' w.heap.size (fun _ => True) v0_ r1 ∧ Below w.heap.size w w' := by
 have hu23 := Try.underlying23
 have HR1 := Aside0.mk hr1
 have HC1 := Aside0.mk hc1
 clear hr1 hc1
 have HB := Aside0.mk (Below.refl w.heap.size w)
 have H : ((stmt_Check.f k a0_0 a0_1 a0_2 a0_3 a0_4 l1 a2).bind fun t172 => (if t172 = 0 then ((stmt_needs.f a0_0 a0_1 a0_2 a0_3 a0_4 l1).bind fun bt173 => (some (bt173.1, bt173.2))) else (some (([] : List (S129)), t172)))) = some (r1, r2) := h
 clear h
 replace H := Option.bind_eq_some_iff.mp H
 obtain ⟨t172, A40, H⟩ := H
 replace H : (if t172 = 0 then ((stmt_needs.f a0_0 a0_1 a0_2 a0_3 a0_4 l1).bind fun bt173 => (some (bt173.1, bt173.2))) else (some (([] : List (S129)), t172))) = some (r1, r2) := H
 have A4 := Aside0.mk A40
 clear A40
 by_cases c5 : t172 = 0
 ·rw [if_pos c5] at H
  have c5b0 : (t172 == 0) = true := beq_iff_eq.mpr c5
  have c5b1 : (t172 != 0) = false := bne_eq_false_iff_eq.mpr c5
  clear c5
  replace H := Option.bind_eq_some_iff.mp H
  obtain ⟨⟨t173, t176⟩, A60, H⟩ := H
  replace H : (some (t173, t176)) = some (r1, r2) := H
  have A6 := Aside0.mk A60
  clear A60
  simp only [Option.some.injEq, Prod.mk.injEq] at H
  obtain ⟨rfl, rfl⟩ := H
  go_enter Try.func36, Try.ntmps36
  go_wp2_with (first | ((with_reducible refine bT (N := 3) rfl ?_); refine bS ?hg (N := 3) ?hd (cs := #[.int .i64 a0_0, .int .i64 a0_1, .int .i64 a0_2, .int .i64 a0_3, .bool a0_4]) (t := 23) ?hr ?_; (case hd => rfl); (case hg => rfl); (case hr => first | (go_simp; done) | (go_simp; rfl)); intro gb171 hg w7 hbox hb; have n0_ := Aside0.mk (bP (by repeat (first | (with_reducible first | exact HB.out | apply bE | apply bA | apply bD) | exact HB.out)) hb); have n1_ := Aside0.mk (hbox); have n2_ := Aside0.mk ((by rw [hg]; exact (bK (by repeat (first | (with_reducible first | exact HB.out | apply bE | apply bA | apply bD) | exact HB.out))) : w.heap.size ≤ gb171)); have n3_ := Aside0.mk ((by rw [hg]; exact (bK (by repeat (first | (with_reducible first | exact HB.out | apply bE | apply bA | apply bD) | exact HB.out))) : w.heap.size ≤ gb171)); clear HB; have HB := n0_; have BK171 := n1_; have GW171 := n2_; have GE171 := n3_; clear n0_ n1_ n2_ n3_; clear hb hbox hg; have hcz8_0 : w7.cell? ⟨gb171, 0, none⟩ = some (.int .i64 a0_0) := (bC BK171.out 0).trans rfl; have hcz8_1 : w7.cell? ⟨gb171, 1, none⟩ = some (.int .i64 a0_1) := (bC BK171.out 1).trans rfl; have hcz8_2 : w7.cell? ⟨gb171, 2, none⟩ = some (.int .i64 a0_2) := (bC BK171.out 2).trans rfl; have hcz8_3 : w7.cell? ⟨gb171, 3, none⟩ = some (.int .i64 a0_3) := (bC BK171.out 3).trans rfl; have hcz8_4 : w7.cell? ⟨gb171, 4, none⟩ = some (.bool a0_4) := (bC BK171.out 4).trans rfl; have hfz8_0 := bB BK171.out 0; have hfz8_1 := bB BK171.out 1; have hfz8_2 := bB BK171.out 2; have hfz8_3 := bB BK171.out 3; have hfz8_4 := bB BK171.out 4) | ((with_reducible refine bV (f := 40) rfl ?_); refine goesL_ (some 12) rfl rfl Try.func40 (by kernel_rfl) rfl #[.agg #[.int .i64 a0_0, .int .i64 a0_1, .int .i64 a0_2, .int .i64 a0_3, .bool a0_4], .slice A1 l1.length c1, .int .i64 a2] rfl (by (try simp only [List.map_toArray, List.map_cons, List.map_nil]); first | done | rfl | (simp only [List.length_drop, List.length_take]; rfl)) ?_; (with_reducible refine (stmt_Check.calls k a0_0 a0_1 a0_2 a0_3 a0_4 _ _ l1 a2 t172 _ ?side1 ?side2 A4.out).mono ?_); (case side1 => repeat (first | exact (Kd.bZ HR1.out HB.out) | (with_reducible refine Kd.C_alloc ?_ _) | (with_reducible refine Kd.C_drewN ?_ _) | (with_reducible refine Kd.C_drew ?_))); (case side2 => exact HC1.out); rintro e w9 ⟨rfl, hb⟩; refine ⟨_, rfl, ?_⟩; have n0_ := Aside0.mk (bU (g := gb171) (o := .cells #[.int .i64 a0_0, .int .i64 a0_1, .int .i64 a0_2, .int .i64 a0_3, .bool a0_4] 23 (0, 0)) (by (with_reducible repeat (first | refine bG ?_ _ | refine bH ?_ | refine bF ?_ _)); exact BK171.out) hb); have n1_ := Aside0.mk (bP (by repeat (first | (with_reducible first | exact HB.out | apply bE | apply bA | apply bD | refine bJ ?_ GE171.out) | exact HB.out)) hb); clear BK171; clear HB; have BK171 := n0_; have HB := n1_; clear n0_ n1_; (try clear hb); (try clear hb2); (try clear hk); (try clear hi); have hcz10_0 : w9.cell? ⟨gb171, 0, none⟩ = some (.int .i64 a0_0) := (bC BK171.out 0).trans rfl; have hcz10_1 : w9.cell? ⟨gb171, 1, none⟩ = some (.int .i64 a0_1) := (bC BK171.out 1).trans rfl; have hcz10_2 : w9.cell? ⟨gb171, 2, none⟩ = some (.int .i64 a0_2) := (bC BK171.out 2).trans rfl; have hcz10_3 : w9.cell? ⟨gb171, 3, none⟩ = some (.int .i64 a0_3) := (bC BK171.out 3).trans rfl; have hcz10_4 : w9.cell? ⟨gb171, 4, none⟩ = some (.bool a0_4) := (bC BK171.out 4).trans rfl; have hfz10_0 := bB BK171.out 0; have hfz10_1 := bB BK171.out 1; have hfz10_2 := bB BK171.out 2; have hfz10_3 := bB BK171.out 3; have hfz10_4 := bB BK171.out 4) | ((with_reducible refine bV (f := 87) rfl ?_); refine goesL_ (some 18) rfl rfl Try.func87 (by kernel_rfl) rfl #[.agg #[.int .i64 a0_0, .int .i64 a0_1, .int .i64 a0_2, .int .i64 a0_3, .bool a0_4], .slice A1 l1.length c1] rfl (by (try simp only [List.map_toArray, List.map_cons, List.map_nil]); first | done | rfl | (simp only [List.length_drop, List.length_take]; rfl)) ?_; (with_reducible refine (stmt_needs.calls a0_0 a0_1 a0_2 a0_3 a0_4 _ _ l1 t173 t176 _ ?side1 ?side2 A6.out).mono ?_); (case side1 => repeat (first | exact (Kd.bZ HR1.out HB.out) | (with_reducible refine Kd.C_alloc ?_ _) | (with_reducible refine Kd.C_drewN ?_ _) | (with_reducible refine Kd.C_drew ?_))); (case side2 => exact HC1.out); rintro e w11 ⟨v174, rfl, ho0, hb⟩; refine ⟨_, rfl, ?_⟩; have n0_ := Aside0.mk (Kd.R_lower ho0 (bK (by repeat (first | (with_reducible first | exact HB.out | apply bE | apply bA | apply bD | refine bJ ?_ GE171.out) | exact HB.out)))); have n1_ := Aside0.mk (bU (g := gb171) (o := .cells #[.int .i64 a0_0, .int .i64 a0_1, .int .i64 a0_2, .int .i64 a0_3, .bool a0_4] 23 (0, 0)) (by (with_reducible repeat (first | refine bG ?_ _ | refine bH ?_ | refine bF ?_ _)); exact BK171.out) hb); have n2_ := Aside0.mk (bP (by repeat (first | (with_reducible first | exact HB.out | apply bE | apply bA | apply bD | refine bJ ?_ GE171.out) | exact HB.out)) hb); clear BK171; clear HB; have HO175 := n0_; have BK171 := n1_; have HB := n2_; clear n0_ n1_ n2_; (try clear hb); (try clear hb2); (try clear hk); (try clear hi); (try clear ho0)))
  go_ret2
  exact ⟨_, by first | rfl | (simp [errW_none, errW_some] <;> rfl) | (simp [*, errW_none, errW_some] <;> rfl), by (with_reducible repeat (first | apply Kd.R_alloc | apply Kd.R_drewN | apply Kd.R_drew)); exact HO175.out, by repeat (first | (with_reducible first | exact HB.out | apply bE | apply bA | apply bD | refine bJ ?_ GE171.out) | exact HB.out)⟩
 ·rw [if_neg c5] at H
  have c5b0 : (t172 == 0) = false := beq_eq_false_iff_ne.mpr c5
  have c5b1 : (t172 != 0) = true := bne_iff_ne.mpr c5
  simp only [Option.some.injEq, Prod.mk.injEq] at H
  obtain ⟨rfl, rfl⟩ := H
  go_enter Try.func36, Try.ntmps36
  go_wp2_with (first | ((with_reducible refine bT (N := 3) rfl ?_); refine bS ?hg (N := 3) ?hd (cs := #[.int .i64 a0_0, .int .i64 a0_1, .int .i64 a0_2, .int .i64 a0_3, .bool a0_4]) (t := 23) ?hr ?_; (case hd => rfl); (case hg => rfl); (case hr => first | (go_simp; done) | (go_simp; rfl)); intro gb171 hg w12 hbox hb; have n0_ := Aside0.mk (bP (by repeat (first | (with_reducible first | exact HB.out | apply bE | apply bA | apply bD) | exact HB.out)) hb); have n1_ := Aside0.mk (hbox); have n2_ := Aside0.mk ((by rw [hg]; exact (bK (by repeat (first | (with_reducible first | exact HB.out | apply bE | apply bA | apply bD) | exact HB.out))) : w.heap.size ≤ gb171)); have n3_ := Aside0.mk ((by rw [hg]; exact (bK (by repeat (first | (with_reducible first | exact HB.out | apply bE | apply bA | apply bD) | exact HB.out))) : w.heap.size ≤ gb171)); clear HB; have HB := n0_; have BK171 := n1_; have GW171 := n2_; have GE171 := n3_; clear n0_ n1_ n2_ n3_; clear hb hbox hg; have hcz13_0 : w12.cell? ⟨gb171, 0, none⟩ = some (.int .i64 a0_0) := (bC BK171.out 0).trans rfl; have hcz13_1 : w12.cell? ⟨gb171, 1, none⟩ = some (.int .i64 a0_1) := (bC BK171.out 1).trans rfl; have hcz13_2 : w12.cell? ⟨gb171, 2, none⟩ = some (.int .i64 a0_2) := (bC BK171.out 2).trans rfl; have hcz13_3 : w12.cell? ⟨gb171, 3, none⟩ = some (.int .i64 a0_3) := (bC BK171.out 3).trans rfl; have hcz13_4 : w12.cell? ⟨gb171, 4, none⟩ = some (.bool a0_4) := (bC BK171.out 4).trans rfl; have hfz13_0 := bB BK171.out 0; have hfz13_1 := bB BK171.out 1; have hfz13_2 := bB BK171.out 2; have hfz13_3 := bB BK171.out 3; have hfz13_4 := bB BK171.out 4) | ((with_reducible refine bV (f := 40) rfl ?_); refine goesL_ (some 12) rfl rfl Try.func40 (by kernel_rfl) rfl #[.agg #[.int .i64 a0_0, .int .i64 a0_1, .int .i64 a0_2, .int .i64 a0_3, .bool a0_4], .slice A1 l1.length c1, .int .i64 a2] rfl (by (try simp only [List.map_toArray, List.map_cons, List.map_nil]); first | done | rfl | (simp only [List.length_drop, List.length_take]; rfl)) ?_; (with_reducible refine (stmt_Check.calls k a0_0 a0_1 a0_2 a0_3 a0_4 _ _ l1 a2 t172 _ ?side1 ?side2 A4.out).mono ?_); (case side1 => repeat (first | exact (Kd.bZ HR1.out HB.out) | (with_reducible refine Kd.C_alloc ?_ _) | (with_reducible refine Kd.C_drewN ?_ _) | (with_reducible refine Kd.C_drew ?_))); (case side2 => exact HC1.out); rintro e w14 ⟨rfl, hb⟩; refine ⟨_, rfl, ?_⟩; have n0_ := Aside0.mk (bU (g := gb171) (o := .cells #[.int .i64 a0_0, .int .i64 a0_1, .int .i64 a0_2, .int .i64 a0_3, .bool a0_4] 23 (0, 0)) (by (with_reducible repeat (first | refine bG ?_ _ | refine bH ?_ | refine bF ?_ _)); exact BK171.out) hb); have n1_ := Aside0.mk (bP (by repeat (first | (with_reducible first | exact HB.out | apply bE | apply bA | apply bD | refine bJ ?_ GE171.out) | exact HB.out)) hb); clear BK171; clear HB; have BK171 := n0_; have HB := n1_; clear n0_ n1_; (try clear hb); (try clear hb2); (try clear hk); (try clear hi)))
  go_ret2
  exact ⟨_, by first | rfl | (simp [errW_none, errW_some] <;> rfl) | (simp [*, errW_none, errW_some] <;> rfl), by first | exact Kd.R_nil _ _ _ _ _ | exact Kd.N_nil _ _ _ _ _ | exact Kd.V_nil _ _ _ _ _ | exact Kd.Q_nil _ _ _ _ _ | exact Kd.S_nil _ _ _ _ _, by repeat (first | (with_reducible first | exact HB.out | apply bE | apply bA | apply bD | refine bJ ?_ GE171.out) | exact HB.out)⟩

/-! ### easementref18_Dst: function 61 -/
def easementref18_Dst.f (a0 : Int) : Option (Bool) := if a0 = 1 then (some true) else (if a0 = 2 then (some true) else (if a0 = 3 then (some true) else (some (a0 == 5))))
set_option maxHeartbeats 8000000 in
set_option maxRecDepth 100000 in
theorem easementref18_Dst.calls (a0 : Int) (r : Bool) (w : World) (h : easementref18_Dst.f a0 = some r) :
  Calls Try.prog 61 #[.int .i64 a0] w fun e w' => e = .returned (.bool r) ∧ Drawn0 w w' := by
 have H : (if a0 = 1 then (some true) else (if a0 = 2 then (some true) else (if a0 = 3 then (some true) else (some (a0 == 5))))) = some r := h
 clear h
 by_cases c2 : a0 = 1
 ·rw [if_pos c2] at H
  have c2b0 : (a0 == 1) = true := beq_iff_eq.mpr c2
  have c2b1 : (a0 != 1) = false := bne_eq_false_iff_eq.mpr c2
  clear c2
  obtain rfl := Option.some.inj H
  go_enter Try.func61, Try.ntmps61
  go_wp2
  go_ret
  exact ⟨by first | rfl | (simp; done) | (simp [*]; done), by repeat (first | exact Drawn0.refl _ | apply Drawn0.step)⟩
 ·rw [if_neg c2] at H
  have c2b0 : (a0 == 1) = false := beq_eq_false_iff_ne.mpr c2
  have c2b1 : (a0 != 1) = true := bne_iff_ne.mpr c2
  by_cases c3 : a0 = 2
  ·rw [if_pos c3] at H
   have c3b0 : (a0 == 2) = true := beq_iff_eq.mpr c3
   have c3b1 : (a0 != 2) = false := bne_eq_false_iff_eq.mpr c3
   clear c3
   obtain rfl := Option.some.inj H
   go_enter Try.func61, Try.ntmps61
   go_wp2
   go_ret
   exact ⟨by first | rfl | (simp; done) | (simp [*]; done), by repeat (first | exact Drawn0.refl _ | apply Drawn0.step)⟩
  ·rw [if_neg c3] at H
   have c3b0 : (a0 == 2) = false := beq_eq_false_iff_ne.mpr c3
   have c3b1 : (a0 != 2) = true := bne_iff_ne.mpr c3
   by_cases c4 : a0 = 3
   ·rw [if_pos c4] at H
    have c4b0 : (a0 == 3) = true := beq_iff_eq.mpr c4
    have c4b1 : (a0 != 3) = false := bne_eq_false_iff_eq.mpr c4
    clear c4
    obtain rfl := Option.some.inj H
    go_enter Try.func61, Try.ntmps61
    go_wp2
    go_ret
    exact ⟨by first | rfl | (simp; done) | (simp [*]; done), by repeat (first | exact Drawn0.refl _ | apply Drawn0.step)⟩
   ·rw [if_neg c4] at H
    have c4b0 : (a0 == 3) = false := beq_eq_false_iff_ne.mpr c4
    have c4b1 : (a0 != 3) = true := bne_iff_ne.mpr c4
    obtain rfl := Option.some.inj H
    go_enter Try.func61, Try.ntmps61
    go_wp2
    go_ret
    exact ⟨by first | rfl | (simp; done) | (simp [*]; done), by repeat (first | exact Drawn0.refl _ | apply Drawn0.step)⟩

/-! ### easementref18_Src: function 62 -/
def easementref18_Src.f (a0 : Int) : Option (Bool) := if a0 ≥ 1 then (some (decide (a0 ≤ 4))) else (some false)
set_option maxHeartbeats 8000000 in
set_option maxRecDepth 100000 in
theorem easementref18_Src.calls (a0 : Int) (r : Bool) (w : World) (h : easementref18_Src.f a0 = some r) :
  Calls Try.prog 62 #[.int .i64 a0] w fun e w' => e = .returned (.bool r) ∧ Drawn0 w w' := by
 have H : (if a0 ≥ 1 then (some (decide (a0 ≤ 4))) else (some false)) = some r := h
 clear h
 by_cases c2 : a0 ≥ 1
 ·rw [if_pos c2] at H
  have c2b0 : decide (1 ≤ a0) = true := decide_eq_true c2
  clear c2
  obtain rfl := Option.some.inj H
  go_enter Try.func62, Try.ntmps62
  go_wp2
  go_ret
  exact ⟨by first | rfl | (simp; done) | (simp [*]; done), by repeat (first | exact Drawn0.refl _ | apply Drawn0.step)⟩
 ·rw [if_neg c2] at H
  have c2b0 : decide (1 ≤ a0) = false := decide_eq_false c2
  clear c2
  obtain rfl := Option.some.inj H
  go_enter Try.func62, Try.ntmps62
  go_wp2
  go_ret
  exact ⟨by first | rfl | (simp; done) | (simp [*]; done), by repeat (first | exact Drawn0.refl _ | apply Drawn0.step)⟩

/-! ### easementref18_Region: function 63 -/
def easementref18_Region.f (a0 : Int) : Option (Bool) := if a0 = 2 then (some true) else (some (a0 == 3))
set_option maxHeartbeats 8000000 in
set_option maxRecDepth 100000 in
theorem easementref18_Region.calls (a0 : Int) (r : Bool) (w : World) (h : easementref18_Region.f a0 = some r) :
  Calls Try.prog 63 #[.int .i64 a0] w fun e w' => e = .returned (.bool r) ∧ Drawn0 w w' := by
 have H : (if a0 = 2 then (some true) else (some (a0 == 3))) = some r := h
 clear h
 by_cases c2 : a0 = 2
 ·rw [if_pos c2] at H
  have c2b0 : (a0 == 2) = true := beq_iff_eq.mpr c2
  have c2b1 : (a0 != 2) = false := bne_eq_false_iff_eq.mpr c2
  clear c2
  obtain rfl := Option.some.inj H
  go_enter Try.func63, Try.ntmps63
  go_wp2
  go_ret
  exact ⟨by first | rfl | (simp; done) | (simp [*]; done), by repeat (first | exact Drawn0.refl _ | apply Drawn0.step)⟩
 ·rw [if_neg c2] at H
  have c2b0 : (a0 == 2) = false := beq_eq_false_iff_ne.mpr c2
  have c2b1 : (a0 != 2) = true := bne_iff_ne.mpr c2
  obtain rfl := Option.some.inj H
  go_enter Try.func63, Try.ntmps63
  go_wp2
  go_ret
  exact ⟨by first | rfl | (simp; done) | (simp [*]; done), by repeat (first | exact Drawn0.refl _ | apply Drawn0.step)⟩

end Go.Proofs.Ythhebinonpoddaa.GStmtNeeds
