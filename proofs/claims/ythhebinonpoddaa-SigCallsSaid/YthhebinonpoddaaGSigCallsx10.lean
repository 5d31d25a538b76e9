/- Written for this claim by gp.py, a program of this session's, over the kit's print. Lean checks it. -/
import Derived.Test.YthhebinonpoddaaGSigCallsx0
import Derived.Test.YthhebinonpoddaaGSigCallsx9
namespace Go.Proofs.Ythhebinonpoddaa.GSigCalls
open Go.RowKit Go.Proofs.YthhebinonpoddaaW.PrintWords Go.Proofs.YthhebinonpoddaaW.PrintLast Go.Proofs.YthhebinonpoddaaW.PrintMore
attribute [local go_sem] max2_int min2_int max_two min_two max_three min_three max_four min_four   -- for this text's walks alone
set_option linter.unusedVariables false
set_option linter.unusedSimpArgs false

/-! ### easementref17_Check: function 47 -/
mutual
def easementref17_Check.j0 : Nat → Bool → Int → List (S117) → List (S44) → List (S115) → Option (Int)
 | 0, _, _, _, _, _ => none
 | k + 1, x24, x207000, x207001, x207002, x207003 => if x24 = true then (some 6) else (easementref17_Check.l0 k 0 x207000 x207001 x207002 x207003)
def easementref17_Check.l0 : Nat → Int → Int → List (S117) → List (S44) → List (S115) → Option (Int)
 | 0, _, _, _, _, _ => none
 | k + 1, x3, x207000, x207001, x207002, x207003 => if x3 < (x207001.length : Int) then (if 0 ≤ x3 then (if ((rd_T117 x207001 x3).f0) < 0 then (some 7) else (if ((rd_T117 x207001 x3).f0) ≥ x207000 then (some 7) else (if ((rd_T117 x207001 x3).f1) < 0 then (some 7) else (if ((rd_T117 x207001 x3).f1) ≥ x207000 then (some 7) else (easementref17_Check.l0 k (wrap64 (x3 + 1)) x207000 x207001 x207002 x207003))))) else (none)) else (easementref17_Check.l1 k 0 x207000 x207001 x207002 x207003)
def easementref17_Check.l1 : Nat → Int → Int → List (S117) → List (S44) → List (S115) → Option (Int)
 | 0, _, _, _, _, _ => none
 | k + 1, x5, x207000, x207001, x207002, x207003 => if x5 < (x207002.length : Int) then (if 0 ≤ x5 then ((easementref15_Check.f k ((rd_T44 x207002 x5).f0) x207000).bind fun t210 => (if t210 = 0 then (easementref17_Check.l1 k (wrap64 (x5 + 1)) x207000 x207001 x207002 x207003) else (some t210))) else (none)) else ((easementref15_Check.f k x207003 x207000).bind fun t211 => (some t211))
end
def easementref17_Check.f (k : Nat) (a0_0 : Int) (l0_1 : List (S117)) (l0_2 : List (S44)) (l0_3 : List (S115)) : Option (Int) := if a0_0 < 0 then (some 7) else (if a0_0 > 16 then (easementref17_Check.j0 k true a0_0 l0_1 l0_2 l0_3) else (if (l0_1.length : Int) > 16 then (easementref17_Check.j0 k true a0_0 l0_1 l0_2 l0_3) else (easementref17_Check.j0 k (decide ((l0_2.length : Int) > 16)) a0_0 l0_1 l0_2 l0_3)))
theorem easementref17_Check.mono_l : ∀ k, (∀ y0 y1 y2 y3 y4, LeO (easementref17_Check.j0 k y0 y1 y2 y3 y4) (easementref17_Check.j0 (k + 1) y0 y1 y2 y3 y4)) ∧ (∀ y0 y1 y2 y3 y4, LeO (easementref17_Check.l0 k y0 y1 y2 y3 y4) (easementref17_Check.l0 (k + 1) y0 y1 y2 y3 y4)) ∧ (∀ y0 y1 y2 y3 y4, LeO (easementref17_Check.l1 k y0 y1 y2 y3 y4) (easementref17_Check.l1 (k + 1) y0 y1 y2 y3 y4))
 | 0 => ⟨fun _ _ _ _ _ r h => by simp [easementref17_Check.j0] at h, fun _ _ _ _ _ r h => by simp [easementref17_Check.l0] at h, fun _ _ _ _ _ r h => by simp [easementref17_Check.l1] at h⟩
 | k + 1 => by
  obtain ⟨ih0, ih1, ih2⟩ := easementref17_Check.mono_l k
  refine ⟨?_, ?_, ?_⟩
  ·intro y0 y1 y2 y3 y4
   unfold easementref17_Check.j0
   repeat' first
   | (with_reducible exact ih0 _ _ _ _ _)
   | (with_reducible exact ih1 _ _ _ _ _)
   | (with_reducible exact ih2 _ _ _ _ _)
   | (with_reducible exact easementref15_Check.mono _ _ _)
   | (with_reducible exact LeO.refl _)
   | (with_reducible exact LeO.none _)
   | (with_reducible refine LeO.ite ?_ ?_)
   | (with_reducible refine LeO.bind ?_ (fun _ => ?_))
   | exact ih0 _ _ _ _ _
   | exact ih1 _ _ _ _ _
   | exact ih2 _ _ _ _ _
   | exact easementref15_Check.mono _ _ _
   | exact LeO.none _
   | refine LeO.ite ?_ ?_
   | refine LeO.bind ?_ (fun _ => ?_)
  ·intro y0 y1 y2 y3 y4
   unfold easementref17_Check.l0
   repeat' first
   | (with_reducible exact ih0 _ _ _ _ _)
   | (with_reducible exact ih1 _ _ _ _ _)
   | (with_reducible exact ih2 _ _ _ _ _)
   | (with_reducible exact easementref15_Check.mono _ _ _)
   | (with_reducible exact LeO.refl _)
   | (with_reducible exact LeO.none _)
   | (with_reducible refine LeO.ite ?_ ?_)
   | (with_reducible refine LeO.bind ?_ (fun _ => ?_))
   | exact ih0 _ _ _ _ _
   | exact ih1 _ _ _ _ _
   | exact ih2 _ _ _ _ _
   | exact easementref15_Check.mono _ _ _
   | exact LeO.none _
   | refine LeO.ite ?_ ?_
   | refine LeO.bind ?_ (fun _ => ?_)
  ·intro y0 y1 y2 y3 y4
   unfold easementref17_Check.l1
   repeat' first
   | (with_reducible exact ih0 _ _ _ _ _)
   | (with_reducible exact ih1 _ _ _ _ _)
   | (with_reducible exact ih2 _ _ _ _ _)
   | (with_reducible exact easementref15_Check.mono _ _ _)
   | (with_reducible exact LeO.refl _)
   | (with_reducible exact LeO.none _)
   | (with_reducible refine LeO.ite ?_ ?_)
   | (with_reducible refine LeO.bind ?_ (fun _ => ?_))
   | exact ih0 _ _ _ _ _
   | exact ih1 _ _ _ _ _
   | exact ih2 _ _ _ _ _
   | exact easementref15_Check.mono _ _ _
   | exact LeO.none _
   | refine LeO.ite ?_ ?_
   | refine LeO.bind ?_ (fun _ => ?_)
theorem easementref17_Check.mono : ∀ a0 a1 a2 a3 k, LeO (easementref17_Check.f k a0 a1 a2 a3) (easementref17_Check.f (k + 1) a0 a1 a2 a3) := by
 intro a0 a1 a2 a3 k
 obtain ⟨ih0, ih1, ih2⟩ := easementref17_Check.mono_l k
 unfold easementref17_Check.f
 repeat' first
   | (with_reducible exact ih0 _ _ _ _ _)
   | (with_reducible exact ih1 _ _ _ _ _)
   | (with_reducible exact ih2 _ _ _ _ _)
   | (with_reducible exact easementref15_Check.mono _ _ _)
   | (with_reducible exact LeO.refl _)
   | (with_reducible exact LeO.none _)
   | (with_reducible refine LeO.ite ?_ ?_)
   | (with_reducible refine LeO.bind ?_ (fun _ => ?_))
   | exact ih0 _ _ _ _ _
   | exact ih1 _ _ _ _ _
   | exact ih2 _ _ _ _ _
   | exact easementref15_Check.mono _ _ _
   | exact LeO.none _
   | refine LeO.ite ?_ ?_
   | refine LeO.bind ?_ (fun _ => ?_)
def easementref17_Check.T14 : Bool × List (List Nat × List Nat) := (true, [([], []), ([0], [0]), ([], []), ([1, 2], [1, 2]), ([3], [3]), ([], []), ([5], [5]), ([4, 6], [4, 6]), ([7, 7, 0, 1, 2, 3, 4, 5, 6, 7], [7])])
def easementref17_Check.B14 : List Nat := [0, 1, 0, 7, 15, 0, 32, 127, 255]
theorem easementref17_Check.tab14 : rtab .any (opsOf Try.f47 14) = easementref17_Check.T14 := by kernel_rfl
theorem easementref17_Check.bits14 : waitsOk easementref17_Check.T14.2 easementref17_Check.B14 = true := by kernel_rfl
set_option maxHeartbeats 8000000 in
set_option maxRecDepth 100000 in
theorem easementref17_Check.calls (k : Nat) (a0_0 : Int) (A0_1 : Option Addr) (c0_1 : Nat) (l0_1 : List (S117)) (A0_2 : Option Addr) (c0_2 : Nat) (l0_2 : List (S44)) (A0_3 : Option Addr) (c0_3 : Nat) (l0_3 : List (S115)) (r : Int) (w : World) (hr0_1 : Kd.C k117 w A0_1 l0_1.length l0_1) (hc0_1 : l0_1.length ≤ c0_1) (hr0_2 : Kd.C k44 w A0_2 l0_2.length l0_2) (hc0_2 : l0_2.length ≤ c0_2) (hr0_3 : Kd.C k115 w A0_3 l0_3.length l0_3) (hc0_3 : l0_3.length ≤ c0_3) (h : easementref17_Check.f k a0_0 l0_1 l0_2 l0_3 = some r) :
  Calls Try.prog 47 #[.agg #[.int .i64 a0_0, .slice A0_1 l0_1.length c0_1, .slice A0_2 l0_2.length c0_2, .slice A0_3 l0_3.length c0_3]] w fun e w' => e = .returned (.int .i64 r) ∧ Below w.heap.size w w' := by
 have hu52 := Try.underlying52
 have hu117 := Try.underlying117
 have hu44 := Try.underlying44
 have HR0_1 := Aside0.mk hr0_1
 have HC0_1 := Aside0.mk hc0_1
 clear hr0_1 hc0_1
 have HR0_2 := Aside0.mk hr0_2
 have HC0_2 := Aside0.mk hc0_2
 clear hr0_2 hc0_2
 have HR0_3 := Aside0.mk hr0_3
 have HC0_3 := Aside0.mk hc0_3
 clear hr0_3 hc0_3
 have HB := Aside0.mk (Below.refl w.heap.size w)
 have H : (if a0_0 < 0 then (some 7) else (if a0_0 > 16 then (easementref17_Check.j0 k true a0_0 l0_1 l0_2 l0_3) else (if (l0_1.length : Int) > 16 then (easementref17_Check.j0 k true a0_0 l0_1 l0_2 l0_3) else (easementref17_Check.j0 k (decide ((l0_2.length : Int) > 16)) a0_0 l0_1 l0_2 l0_3)))) = some r := h
 clear h
 by_cases c2 : a0_0 < 0
 ·rw [if_pos c2] at H
  have c2b0 : decide (a0_0 < 0) = true := decide_eq_true c2
  clear c2
  obtain rfl := Option.some.inj H
  go_enter Try.func47, Try.ntmps47
  go_wp2_with (first | ((with_reducible refine bZ (N := 1) rfl ?_); (try (refine cE (by rfl) ?_; dsimp only)); refine bY ?hg (N := 1) ?hd (cs := #[.int .i64 a0_0, .slice A0_1 l0_1.length c0_1, .slice A0_2 l0_2.length c0_2, .slice A0_3 l0_3.length c0_3]) (t := 52) ?hr ?_; (case hd => rfl); (case hg => rfl); (case hr => first | (go_simp; done) | (go_simp; rfl)); intro gb206 hg w3 hbox hb; have n0_ := Aside0.mk (bM (by repeat (first | (with_reducible first | exact HB.out | apply bC | apply bA | apply bB) | exact HB.out)) hb); have n1_ := Aside0.mk (hbox); have n2_ := Aside0.mk ((by rw [hg]; exact (bK (by repeat (first | (with_reducible first | exact HB.out | apply bC | apply bA | apply bB) | exact HB.out))) : w.heap.size ≤ gb206)); have n3_ := Aside0.mk ((by rw [hg]; exact (bK (by repeat (first | (with_reducible first | exact HB.out | apply bC | apply bA | apply bB) | exact HB.out))) : w.heap.size ≤ gb206)); clear HB; have HB := n0_; have BK206 := n1_; have GW206 := n2_; have GE206 := n3_; clear n0_ n1_ n2_ n3_; clear hb hbox hg; have hcz4_0 : w3.cell? ⟨gb206, 0, none⟩ = some (.int .i64 a0_0) := (bH BK206.out 0).trans rfl; have hcz4_1 : w3.cell? ⟨gb206, 1, none⟩ = some (.slice A0_1 l0_1.length c0_1) := (bH BK206.out 1).trans rfl; have hcz4_2 : w3.cell? ⟨gb206, 2, none⟩ = some (.slice A0_2 l0_2.length c0_2) := (bH BK206.out 2).trans rfl; have hcz4_3 : w3.cell? ⟨gb206, 3, none⟩ = some (.slice A0_3 l0_3.length c0_3) := (bH BK206.out 3).trans rfl; have hfz4_0 := bJ BK206.out 0; have hfz4_1 := bJ BK206.out 1; have hfz4_2 := bJ BK206.out 2; have hfz4_3 := bJ BK206.out 3))
  go_ret
  exact ⟨by first | rfl | (simp [errW_none, errW_some] <;> rfl) | (simp [*, errW_none, errW_some] <;> rfl), by repeat (first | (with_reducible first | exact HB.out | apply bC | apply bA | apply bB | refine bD ?_ GE206.out) | exact HB.out)⟩
 ·rw [if_neg c2] at H
  have c2b0 : decide (a0_0 < 0) = false := decide_eq_false c2
  clear c2
  have HC5 := Aside0.mk H
  clear H
  go_enter Try.func47, Try.ntmps47
  go_upto_region 3 with (first | ((with_reducible refine bZ (N := 1) rfl ?_); (try (refine cE (by rfl) ?_; dsimp only)); refine bY ?hg (N := 1) ?hd (cs := #[.int .i64 a0_0, .slice A0_1 l0_1.length c0_1, .slice A0_2 l0_2.length c0_2, .slice A0_3 l0_3.length c0_3]) (t := 52) ?hr ?_; (case hd => rfl); (case hg => rfl); (case hr => first | (go_simp; done) | (go_simp; rfl)); intro gb206 hg w6 hbox hb; have n0_ := Aside0.mk (bM (by repeat (first | (with_reducible first | exact HB.out | apply bC | apply bA | apply bB) | exact HB.out)) hb); have n1_ := Aside0.mk (hbox); have n2_ := Aside0.mk ((by rw [hg]; exact (bK (by repeat (first | (with_reducible first | exact HB.out | apply bC | apply bA | apply bB) | exact HB.out))) : w.heap.size ≤ gb206)); have n3_ := Aside0.mk ((by rw [hg]; exact (bK (by repeat (first | (with_reducible first | exact HB.out | apply bC | apply bA | apply bB) | exact HB.out))) : w.heap.size ≤ gb206)); clear HB; have HB := n0_; have BK206 := n1_; have GW206 := n2_; have GE206 := n3_; clear n0_ n1_ n2_ n3_; clear hb hbox hg; have hcz7_0 : w6.cell? ⟨gb206, 0, none⟩ = some (.int .i64 a0_0) := (bH BK206.out 0).trans rfl; have hcz7_1 : w6.cell? ⟨gb206, 1, none⟩ = some (.slice A0_1 l0_1.length c0_1) := (bH BK206.out 1).trans rfl; have hcz7_2 : w6.cell? ⟨gb206, 2, none⟩ = some (.slice A0_2 l0_2.length c0_2) := (bH BK206.out 2).trans rfl; have hcz7_3 : w6.cell? ⟨gb206, 3, none⟩ = some (.slice A0_3 l0_3.length c0_3) := (bH BK206.out 3).trans rfl; have hfz7_0 := bJ BK206.out 0; have hfz7_1 := bJ BK206.out 1; have hfz7_2 := bJ BK206.out 2; have hfz7_3 := bJ BK206.out 3))
  (try simp only [Act.put, sZ1, sZ2, sZ3])
  go_cut [24] (fun v24 wc => ∃ (kq : Nat) (x24_4 : Bool), v24 = .bool x24_4 ∧ Aside0 (easementref17_Check.j0 kq x24_4 a0_0 l0_1 l0_2 l0_3 = some r) ∧ Aside0 (kq ≤ k) ∧ Aside0 (wc.heap[gb206]? = some (.cells #[.int .i64 a0_0, (.slice A0_1 l0_1.length c0_1), (.slice A0_2 l0_2.length c0_2), (.slice A0_3 l0_3.length c0_3)] 52 (0, 0))) ∧ Aside0 (Below w.heap.size w wc))
  case first =>
   have H := HC5.out
   clear HC5
   by_cases c8 : a0_0 > 16
   ·rw [if_pos c8] at H
    have c8b0 : decide (16 < a0_0) = true := decide_eq_true c8
    clear c8
    (first | rw [c8b0] | (simp only [bN, bP]; rw [c8b0]) | skip)
    have H' := Aside0.mk H
    clear H
    have hcz9_0 : w6.cell? ⟨gb206, 0, none⟩ = some (.int .i64 a0_0) := (bH BK206.out 0).trans rfl
    have hcz9_1 : w6.cell? ⟨gb206, 1, none⟩ = some (.slice A0_1 l0_1.length c0_1) := (bH BK206.out 1).trans rfl
    have hcz9_2 : w6.cell? ⟨gb206, 2, none⟩ = some (.slice A0_2 l0_2.length c0_2) := (bH BK206.out 2).trans rfl
    have hcz9_3 : w6.cell? ⟨gb206, 3, none⟩ = some (.slice A0_3 l0_3.length c0_3) := (bH BK206.out 3).trans rfl
    have hfz9_0 := bJ BK206.out 0
    have hfz9_1 := bJ BK206.out 1
    have hfz9_2 := bJ BK206.out 2
    have hfz9_3 := bJ BK206.out 3
    go_wp2
    go_meet
    case rel => exact ⟨_, (true), (by first | rfl | (simp; done) | (simp [*]; done)), H', ⟨by first | omega | exact Nat.le_refl _⟩, ⟨by (with_reducible repeat (first | refine bF ?_ _ | refine bG ?_ | refine bE ?_ _)); exact BK206.out⟩, ⟨by repeat (first | (with_reducible first | exact HB.out | apply bC | apply bA | apply bB | refine bD ?_ GE206.out) | exact HB.out)⟩⟩
   ·rw [if_neg c8] at H
    have c8b0 : decide (16 < a0_0) = false := decide_eq_false c8
    clear c8
    (first | rw [c8b0] | (simp only [bN, bP]; rw [c8b0]) | skip)
    by_cases c10 : (l0_1.length : Int) > 16
    ·rw [if_pos c10] at H
     have c10b0 : decide (16 < (l0_1.length : Int)) = true := decide_eq_true c10
     have c10b1 : decide (16 < l0_1.length) = true := decide_eq_true (by omega)
     clear c10
     have H' := Aside0.mk H
     clear H
     have hcz11_0 : w6.cell? ⟨gb206, 0, none⟩ = some (.int .i64 a0_0) := (bH BK206.out 0).trans rfl
     have hcz11_1 : w6.cell? ⟨gb206, 1, none⟩ = some (.slice A0_1 l0_1.length c0_1) := (bH BK206.out 1).trans rfl
     have hcz11_2 : w6.cell? ⟨gb206, 2, none⟩ = some (.slice A0_2 l0_2.length c0_2) := (bH BK206.out 2).trans rfl
     have hcz11_3 : w6.cell? ⟨gb206, 3, none⟩ = some (.slice A0_3 l0_3.length c0_3) := (bH BK206.out 3).trans rfl
     have hfz11_0 := bJ BK206.out 0
     have hfz11_1 := bJ BK206.out 1
     have hfz11_2 := bJ BK206.out 2
     have hfz11_3 := bJ BK206.out 3
     go_wp2
     go_meet
     case rel => exact ⟨_, (true), (by first | rfl | (simp; done) | (simp [*]; done)), H', ⟨by first | omega | exact Nat.le_refl _⟩, ⟨by (with_reducible repeat (first | refine bF ?_ _ | refine bG ?_ | refine bE ?_ _)); exact BK206.out⟩, ⟨by repeat (first | (with_reducible first | exact HB.out | apply bC | apply bA | apply bB | refine bD ?_ GE206.out) | exact HB.out)⟩⟩
    ·rw [if_neg c10] at H
     have c10b0 : decide (16 < (l0_1.length : Int)) = false := decide_eq_false c10
     have c10b1 : decide (16 < l0_1.length) = false := decide_eq_false (by omega)
     clear c10
     have H' := Aside0.mk H
     clear H
     have hcz12_0 : w6.cell? ⟨gb206, 0, none⟩ = some (.int .i64 a0_0) := (bH BK206.out 0).trans rfl
     have hcz12_1 : w6.cell? ⟨gb206, 1, none⟩ = some (.slice A0_1 l0_1.length c0_1) := (bH BK206.out 1).trans rfl
     have hcz12_2 : w6.cell? ⟨gb206, 2, none⟩ = some (.slice A0_2 l0_2.length c0_2) := (bH BK206.out 2).trans rfl
     have hcz12_3 : w6.cell? ⟨gb206, 3, none⟩ = some (.slice A0_3 l0_3.length c0_3) := (bH BK206.out 3).trans rfl
     have hfz12_0 := bJ BK206.out 0
     have hfz12_1 := bJ BK206.out 1
     have hfz12_2 := bJ BK206.out 2
     have hfz12_3 := bJ BK206.out 3
     go_wp2
     go_meet
     case rel => exact ⟨_, (decide ((l0_2.length : Int) > 16)), (by first | rfl | (simp; done) | (simp [*]; done)), H', ⟨by first | omega | exact Nat.le_refl _⟩, ⟨by (with_reducible repeat (first | refine bF ?_ _ | refine bG ?_ | refine bE ?_ _)); exact BK206.out⟩, ⟨by repeat (first | (with_reducible first | exact HB.out | apply bC | apply bA | apply bB | refine bD ?_ GE206.out) | exact HB.out)⟩⟩
  case rest =>
   clear HC5
   try clear c1
   try clear c2
   try clear c2b0
   try clear p2
   try clear c4
   try clear c8
   try clear c8b0
   try clear c10
   try clear c10b0
   try clear c10b1
   try clear hcz11_0
   try clear hcz11_1
   try clear hcz11_2
   try clear hcz11_3
   try clear hcz12_0
   try clear hcz12_1
   try clear hcz12_2
   try clear hcz12_3
   try clear hcz4_0
   try clear hcz4_1
   try clear hcz4_2
   try clear hcz4_3
   try clear hcz7_0
   try clear hcz7_1
   try clear hcz7_2
   try clear hcz7_3
   try clear hcz9_0
   try clear hcz9_1
   try clear hcz9_2
   try clear hcz9_3
   try clear hfz11_0
   try clear hfz11_1
   try clear hfz11_2
   try clear hfz11_3
   try clear hfz12_0
   try clear hfz12_1
   try clear hfz12_2
   try clear hfz12_3
   try clear hfz4_0
   try clear hfz4_1
   try clear hfz4_2
   try clear hfz4_3
   try clear hfz7_0
   try clear hfz7_1
   try clear hfz7_2
   try clear hfz7_3
   try clear hfz9_0
   try clear hfz9_1
   try clear hfz9_2
   try clear hfz9_3
   obtain ⟨kq, x24_4, rfl, HA, HJ4, BK206, HB⟩ := hcut
   cases kq with
   | zero => exact absurd HA.out (by simp [easementref17_Check.j0])
   | succ kj4 =>
    have H := HA.out
    clear HA
    simp only [easementref17_Check.j0] at H
    by_cases c13 : x24_4 = true
    ·subst c13
     have H1 : (some 6) = some r := by rw [if_pos rfl] at H; exact H
     clear H
     have H := H1
     clear H1
     obtain rfl := Option.some.inj H
     go_wp2
     go_ret
     exact ⟨by first | rfl | (simp [errW_none, errW_some] <;> rfl) | (simp [*, errW_none, errW_some] <;> rfl), by repeat (first | (with_reducible first | exact HB.out | apply bC | apply bA | apply bB | refine bD ?_ GE206.out) | exact HB.out)⟩
    ·replace c13 := Bool.eq_false_iff.mpr c13
     subst c13
     have H1 : (easementref17_Check.l0 kj4 0 a0_0 l0_1 l0_2 l0_3) = some r := by rw [if_neg (show ¬ (false = true) by decide)] at H; exact H
     clear H
     have H := H1
     clear H1
     have H' := Aside0.mk H
     clear H
     go_wp2
     go_loopg [3] kj4 (fun kq v3 w' => ∃ (x3_2 : Int), v3 = .int .i64 x3_2 ∧ Aside0 (easementref17_Check.l0 kq x3_2 a0_0 l0_1 l0_2 l0_3 = some r) ∧ Aside0 (kq ≤ kj4) ∧ Aside0 (w'.heap[gb206]? = some (.cells #[.int .i64 a0_0, (.slice A0_1 l0_1.length c0_1), (.slice A0_2 l0_2.length c0_2), (.slice A0_3 l0_3.length c0_3)] 52 (0, 0))) ∧ Aside0 (Below w.heap.size w w'))
     case atStart => exact ⟨(0), (by first | rfl | (simp; done) | (simp [*]; done)), H', ⟨Nat.le_refl _⟩, ⟨by (with_reducible repeat (first | refine bF ?_ _ | refine bG ?_ | refine bE ?_ _)); exact BK206.out⟩, ⟨by repeat (first | (with_reducible first | exact HB.out | apply bC | apply bA | apply bB | refine bD ?_ GE206.out) | exact HB.out)⟩⟩
     case round =>
      clear H'
      try clear c1
      try clear c2
      try clear c2b0
      try clear p2
      try clear c4
      try clear c8
      try clear c8b0
      try clear c10
      try clear c10b0
      try clear c10b1
      try clear c13
      try clear hcz11_0
      try clear hcz11_1
      try clear hcz11_2
      try clear hcz11_3
      try clear hcz12_0
      try clear hcz12_1
      try clear hcz12_2
      try clear hcz12_3
      try clear hcz4_0
      try clear hcz4_1
      try clear hcz4_2
      try clear hcz4_3
      try clear hcz7_0
      try clear hcz7_1
      try clear hcz7_2
      try clear hcz7_3
      try clear hcz9_0
      try clear hcz9_1
      try clear hcz9_2
      try clear hcz9_3
      try clear hfz11_0
      try clear hfz11_1
      try clear hfz11_2
      try clear hfz11_3
      try clear hfz12_0
      try clear hfz12_1
      try clear hfz12_2
      try clear hfz12_3
      try clear hfz4_0
      try clear hfz4_1
      try clear hfz4_2
      try clear hfz4_3
      try clear hfz7_0
      try clear hfz7_1
      try clear hfz7_2
      try clear hfz7_3
      try clear hfz9_0
      try clear hfz9_1
      try clear hfz9_2
      try clear hfz9_3
      try clear p2
      obtain ⟨x3_2, rfl, HA, HK2, BK206, HB⟩ := hrel
      cases gk with
      | zero => exact absurd HA.out (by simp [easementref17_Check.l0])
      | succ k2 =>
       have H := HA.out
       clear HA
       simp only [easementref17_Check.l0] at H
       by_cases c14 : x3_2 < (l0_1.length : Int)
       ·rw [if_pos c14] at H
        have c14b0 : decide (x3_2 < (l0_1.length : Int)) = true := decide_eq_true c14
        clear c14
        by_cases c15 : 0 ≤ x3_2
        ·rw [if_pos c15] at H
         have c15b0 : decide (0 ≤ x3_2) = true := decide_eq_true c15
         clear c15
         by_cases c16 : ((rd_T117 l0_1 x3_2).f0) < 0
         ·rw [if_pos c16] at H
          have c16b0 : decide (((rd_T117 l0_1 x3_2).f0) < 0) = true := decide_eq_true c16
          clear c16
          obtain rfl := Option.some.inj H
          have hcz17_0 : wr.cell? ⟨gb206, 0, none⟩ = some (.int .i64 a0_0) := (bH BK206.out 0).trans rfl
          have hcz17_1 : wr.cell? ⟨gb206, 1, none⟩ = some (.slice A0_1 l0_1.length c0_1) := (bH BK206.out 1).trans rfl
          have hcz17_2 : wr.cell? ⟨gb206, 2, none⟩ = some (.slice A0_2 l0_2.length c0_2) := (bH BK206.out 2).trans rfl
          have hcz17_3 : wr.cell? ⟨gb206, 3, none⟩ = some (.slice A0_3 l0_3.length c0_3) := (bH BK206.out 3).trans rfl
          have hfz17_0 := bJ BK206.out 0
          have hfz17_1 := bJ BK206.out 1
          have hfz17_2 := bJ BK206.out 2
          have hfz17_3 := bJ BK206.out 3
          have p207 : 0 ≤ (x3_2 : Int) := of_decide_eq_true (by first | (with_reducible assumption) | assumption)
          have q207 : x3_2 < (l0_1.length : Int) := of_decide_eq_true (by first | (with_reducible assumption) | assumption)
          obtain ⟨ad207, e207, hx207_0, hx207_1⟩ := at_T117 HR0_1.out x3_2 p207 q207
          cases e207
          replace hx207_0 := (HB.out.cell (World.block_lt_of_cell? w _ hx207_0)).trans hx207_0
          replace hx207_1 := (HB.out.cell (World.block_lt_of_cell? w _ hx207_1)).trans hx207_1
          replace p207 := eq_true p207
          replace q207 := eq_true q207
          go_wp2_with (first | ((with_reducible refine bZ (N := 4) rfl ?_); (try (refine cE (by rfl) ?_; dsimp only)); refine bY ?hg (N := 4) ?hd (cs := #[.int .i64 0, .int .i64 0]) (t := 117) ?hr ?_; (case hd => rfl); (case hg => rfl); (case hr => first | (go_simp; done) | (go_simp; rfl)); intro gb208 hg w18 hbox hb; have n0_ := Aside0.mk (bL (g := gb206) (o := .cells #[.int .i64 a0_0, .slice (some ad207) l0_1.length c0_1, .slice A0_2 l0_2.length c0_2, .slice A0_3 l0_3.length c0_3] 52 (0, 0)) (by (with_reducible repeat (first | refine bF ?_ _ | refine bG ?_ | refine bE ?_ _)); exact BK206.out) hb); have n1_ := Aside0.mk (bM (by repeat (first | (with_reducible first | exact HB.out | apply bC | apply bA | apply bB | refine bD ?_ GE206.out) | exact HB.out)) hb); have n2_ := Aside0.mk (hbox); have n3_ := Aside0.mk ((by rw [hg]; exact (bK (by repeat (first | (with_reducible first | exact HB.out | apply bC | apply bA | apply bB | refine bD ?_ GE206.out) | exact HB.out))) : w.heap.size ≤ gb208)); have n4_ := Aside0.mk ((by rw [hg]; exact (bK (by repeat (first | (with_reducible first | exact HB.out | apply bC | apply bA | apply bB | refine bD ?_ GE206.out) | exact HB.out))) : w.heap.size ≤ gb208)); have n5_ := Aside0.mk ((by rw [hg]; exact Nat.ne_of_lt (cD (g := gb206) (o := .cells #[.int .i64 a0_0, .slice (some ad207) l0_1.length c0_1, .slice A0_2 l0_2.length c0_2, .slice A0_3 l0_3.length c0_3] 52 (0, 0)) (by (with_reducible repeat (first | refine bF ?_ _ | refine bG ?_ | refine bE ?_ _)); exact BK206.out)) : gb206 ≠ gb208)); have n6_ := Aside0.mk ((by rw [hg]; exact Nat.ne_of_gt (cD (g := gb206) (o := .cells #[.int .i64 a0_0, .slice (some ad207) l0_1.length c0_1, .slice A0_2 l0_2.length c0_2, .slice A0_3 l0_3.length c0_3] 52 (0, 0)) (by (with_reducible repeat (first | refine bF ?_ _ | refine bG ?_ | refine bE ?_ _)); exact BK206.out)) : gb208 ≠ gb206)); clear BK206; clear HB; have BK206 := n0_; have HB := n1_; have BK208 := n2_; have GW208 := n3_; have GE208 := n4_; have NB206_208 := n5_; have NB208_206 := n6_; clear n0_ n1_ n2_ n3_ n4_ n5_ n6_; clear hb hbox hg; have hnb19 := NB208_206.out; have hnc19 := NB206_208.out; have hcz20_0 : w18.cell? ⟨gb208, 0, none⟩ = some (.int .i64 0) := (bH BK208.out 0).trans rfl; have hcz20_1 : w18.cell? ⟨gb208, 1, none⟩ = some (.int .i64 0) := (bH BK208.out 1).trans rfl; have hfz20_0 := bJ BK208.out 0; have hfz20_1 := bJ BK208.out 1))
          go_ret
          exact ⟨by first | rfl | (simp [errW_none, errW_some] <;> rfl) | (simp [*, errW_none, errW_some] <;> rfl), by repeat (first | (with_reducible first | exact HB.out | apply bC | apply bA | apply bB | refine bD ?_ GE206.out | refine bD ?_ GE208.out) | exact HB.out)⟩
         ·rw [if_neg c16] at H
          have c16b0 : decide (((rd_T117 l0_1 x3_2).f0) < 0) = false := decide_eq_false c16
          clear c16
          by_cases c21 : ((rd_T117 l0_1 x3_2).f0) ≥ a0_0
          ·rw [if_pos c21] at H
           have c21b0 : decide (a0_0 ≤ ((rd_T117 l0_1 x3_2).f0)) = true := decide_eq_true c21
           clear c21
           obtain rfl := Option.some.inj H
           have hcz22_0 : wr.cell? ⟨gb206, 0, none⟩ = some (.int .i64 a0_0) := (bH BK206.out 0).trans rfl
           have hcz22_1 : wr.cell? ⟨gb206, 1, none⟩ = some (.slice A0_1 l0_1.length c0_1) := (bH BK206.out 1).trans rfl
           have hcz22_2 : wr.cell? ⟨gb206, 2, none⟩ = some (.slice A0_2 l0_2.length c0_2) := (bH BK206.out 2).trans rfl
           have hcz22_3 : wr.cell? ⟨gb206, 3, none⟩ = some (.slice A0_3 l0_3.length c0_3) := (bH BK206.out 3).trans rfl
           have hfz22_0 := bJ BK206.out 0
           have hfz22_1 := bJ BK206.out 1
           have hfz22_2 := bJ BK206.out 2
           have hfz22_3 := bJ BK206.out 3
           have p207 : 0 ≤ (x3_2 : Int) := of_decide_eq_true (by first | (with_reducible assumption) | assumption)
           have q207 : x3_2 < (l0_1.length : Int) := of_decide_eq_true (by first | (with_reducible assumption) | assumption)
           obtain ⟨ad207, e207, hx207_0, hx207_1⟩ := at_T117 HR0_1.out x3_2 p207 q207
           cases e207
           replace hx207_0 := (HB.out.cell (World.block_lt_of_cell? w _ hx207_0)).trans hx207_0
           replace hx207_1 := (HB.out.cell (World.block_lt_of_cell? w _ hx207_1)).trans hx207_1
           replace p207 := eq_true p207
           replace q207 := eq_true q207
           go_wp2_with (first | ((with_reducible refine bZ (N := 4) rfl ?_); (try (refine cE (by rfl) ?_; dsimp only)); refine bY ?hg (N := 4) ?hd (cs := #[.int .i64 0, .int .i64 0]) (t := 117) ?hr ?_; (case hd => rfl); (case hg => rfl); (case hr => first | (go_simp; done) | (go_simp; rfl)); intro gb208 hg w23 hbox hb; have n0_ := Aside0.mk (bL (g := gb206) (o := .cells #[.int .i64 a0_0, .slice (some ad207) l0_1.length c0_1, .slice A0_2 l0_2.length c0_2, .slice A0_3 l0_3.length c0_3] 52 (0, 0)) (by (with_reducible repeat (first | refine bF ?_ _ | refine bG ?_ | refine bE ?_ _)); exact BK206.out) hb); have n1_ := Aside0.mk (bM (by repeat (first | (with_reducible first | exact HB.out | apply bC | apply bA | apply bB | refine bD ?_ GE206.out) | exact HB.out)) hb); have n2_ := Aside0.mk (hbox); have n3_ := Aside0.mk ((by rw [hg]; exact (bK (by repeat (first | (with_reducible first | exact HB.out | apply bC | apply bA | apply bB | refine bD ?_ GE206.out) | exact HB.out))) : w.heap.size ≤ gb208)); have n4_ := Aside0.mk ((by rw [hg]; exact (bK (by repeat (first | (with_reducible first | exact HB.out | apply bC | apply bA | apply bB | refine bD ?_ GE206.out) | exact HB.out))) : w.heap.size ≤ gb208)); have n5_ := Aside0.mk ((by rw [hg]; exact Nat.ne_of_lt (cD (g := gb206) (o := .cells #[.int .i64 a0_0, .slice (some ad207) l0_1.length c0_1, .slice A0_2 l0_2.length c0_2, .slice A0_3 l0_3.length c0_3] 52 (0, 0)) (by (with_reducible repeat (first | refine bF ?_ _ | refine bG ?_ | refine bE ?_ _)); exact BK206.out)) : gb206 ≠ gb208)); have n6_ := Aside0.mk ((by rw [hg]; exact Nat.ne_of_gt (cD (g := gb206) (o := .cells #[.int .i64 a0_0, .slice (some ad207) l0_1.length c0_1, .slice A0_2 l0_2.length c0_2, .slice A0_3 l0_3.length c0_3] 52 (0, 0)) (by (with_reducible repeat (first | refine bF ?_ _ | refine bG ?_ | refine bE ?_ _)); exact BK206.out)) : gb208 ≠ gb206)); clear BK206; clear HB; have BK206 := n0_; have HB := n1_; have BK208 := n2_; have GW208 := n3_; have GE208 := n4_; have NB206_208 := n5_; have NB208_206 := n6_; clear n0_ n1_ n2_ n3_ n4_ n5_ n6_; clear hb hbox hg; have hnb24 := NB208_206.out; have hnc24 := NB206_208.out; have hcz25_0 : w23.cell? ⟨gb208, 0, none⟩ = some (.int .i64 0) := (bH BK208.out 0).trans rfl; have hcz25_1 : w23.cell? ⟨gb208, 1, none⟩ = some (.int .i64 0) := (bH BK208.out 1).trans rfl; have hfz25_0 := bJ BK208.out 0; have hfz25_1 := bJ BK208.out 1; have hcz26_0 : w23.cell? ⟨gb206, 0, none⟩ = some (.int .i64 a0_0) := (bH BK206.out 0).trans rfl; have hcz26_1 : w23.cell? ⟨gb206, 1, none⟩ = some (.slice (some ad207) l0_1.length c0_1) := (bH BK206.out 1).trans rfl; have hcz26_2 : w23.cell? ⟨gb206, 2, none⟩ = some (.slice A0_2 l0_2.length c0_2) := (bH BK206.out 2).trans rfl; have hcz26_3 : w23.cell? ⟨gb206, 3, none⟩ = some (.slice A0_3 l0_3.length c0_3) := (bH BK206.out 3).trans rfl; have hfz26_0 := bJ BK206.out 0; have hfz26_1 := bJ BK206.out 1; have hfz26_2 := bJ BK206.out 2; have hfz26_3 := bJ BK206.out 3))
           go_ret
           exact ⟨by first | rfl | (simp [errW_none, errW_some] <;> rfl) | (simp [*, errW_none, errW_some] <;> rfl), by repeat (first | (with_reducible first | exact HB.out | apply bC | apply bA | apply bB | refine bD ?_ GE206.out | refine bD ?_ GE208.out) | exact HB.out)⟩
          ·rw [if_neg c21] at H
           have c21b0 : decide (a0_0 ≤ ((rd_T117 l0_1 x3_2).f0)) = false := decide_eq_false c21
           clear c21
           by_cases c27 : ((rd_T117 l0_1 x3_2).f1) < 0
           ·rw [if_pos c27] at H
            have c27b0 : decide (((rd_T117 l0_1 x3_2).f1) < 0) = true := decide_eq_true c27
            clear c27
            obtain rfl := Option.some.inj H
            have hcz28_0 : wr.cell? ⟨gb206, 0, none⟩ = some (.int .i64 a0_0) := (bH BK206.out 0).trans rfl
            have hcz28_1 : wr.cell? ⟨gb206, 1, none⟩ = some (.slice A0_1 l0_1.length c0_1) := (bH BK206.out 1).trans rfl
            have hcz28_2 : wr.cell? ⟨gb206, 2, none⟩ = some (.slice A0_2 l0_2.length c0_2) := (bH BK206.out 2).trans rfl
            have hcz28_3 : wr.cell? ⟨gb206, 3, none⟩ = some (.slice A0_3 l0_3.length c0_3) := (bH BK206.out 3).trans rfl
            have hfz28_0 := bJ BK206.out 0
            have hfz28_1 := bJ BK206.out 1
            have hfz28_2 := bJ BK206.out 2
            have hfz28_3 := bJ BK206.out 3
            have p207 : 0 ≤ (x3_2 : Int) := of_decide_eq_true (by first | (with_reducible assumption) | assumption)
            have q207 : x3_2 < (l0_1.length : Int) := of_decide_eq_true (by first | (with_reducible assumption) | assumption)
            obtain ⟨ad207, e207, hx207_0, hx207_1⟩ := at_T117 HR0_1.out x3_2 p207 q207
            cases e207
            replace hx207_0 := (HB.out.cell (World.block_lt_of_cell? w _ hx207_0)).trans hx207_0
            replace hx207_1 := (HB.out.cell (World.block_lt_of_cell? w _ hx207_1)).trans hx207_1
            replace p207 := eq_true p207
            replace q207 := eq_true q207
            go_wp2_with (first | ((with_reducible refine bZ (N := 4) rfl ?_); (try (refine cE (by rfl) ?_; dsimp only)); refine bY ?hg (N := 4) ?hd (cs := #[.int .i64 0, .int .i64 0]) (t := 117) ?hr ?_; (case hd => rfl); (case hg => rfl); (case hr => first | (go_simp; done) | (go_simp; rfl)); intro gb208 hg w29 hbox hb; have n0_ := Aside0.mk (bL (g := gb206) (o := .cells #[.int .i64 a0_0, .slice (some ad207) l0_1.length c0_1, .slice A0_2 l0_2.length c0_2, .slice A0_3 l0_3.length c0_3] 52 (0, 0)) (by (with_reducible repeat (first | refine bF ?_ _ | refine bG ?_ | refine bE ?_ _)); exact BK206.out) hb); have n1_ := Aside0.mk (bM (by repeat (first | (with_reducible first | exact HB.out | apply bC | apply bA | apply bB | refine bD ?_ GE206.out) | exact HB.out)) hb); have n2_ := Aside0.mk (hbox); have n3_ := Aside0.mk ((by rw [hg]; exact (bK (by repeat (first | (with_reducible first | exact HB.out | apply bC | apply bA | apply bB | refine bD ?_ GE206.out) | exact HB.out))) : w.heap.size ≤ gb208)); have n4_ := Aside0.mk ((by rw [hg]; exact (bK (by repeat (first | (with_reducible first | exact HB.out | apply bC | apply bA | apply bB | refine bD ?_ GE206.out) | exact HB.out))) : w.heap.size ≤ gb208)); have n5_ := Aside0.mk ((by rw [hg]; exact Nat.ne_of_lt (cD (g := gb206) (o := .cells #[.int .i64 a0_0, .slice (some ad207) l0_1.length c0_1, .slice A0_2 l0_2.length c0_2, .slice A0_3 l0_3.length c0_3] 52 (0, 0)) (by (with_reducible repeat (first | refine bF ?_ _ | refine bG ?_ | refine bE ?_ _)); exact BK206.out)) : gb206 ≠ gb208)); have n6_ := Aside0.mk ((by rw [hg]; exact Nat.ne_of_gt (cD (g := gb206) (o := .cells #[.int .i64 a0_0, .slice (some ad207) l0_1.length c0_1, .slice A0_2 l0_2.length c0_2, .slice A0_3 l0_3.length c0_3] 52 (0, 0)) (by (with_reducible repeat (first | refine bF ?_ _ | refine bG ?_ | refine bE ?_ _)); exact BK206.out)) : gb208 ≠ gb206)); clear BK206; clear HB; have BK206 := n0_; have HB := n1_; have BK208 := n2_; have GW208 := n3_; have GE208 := n4_; have NB206_208 := n5_; have NB208_206 := n6_; clear n0_ n1_ n2_ n3_ n4_ n5_ n6_; clear hb hbox hg; have hnb30 := NB208_206.out; have hnc30 := NB206_208.out; have hcz31_0 : w29.cell? ⟨gb208, 0, none⟩ = some (.int .i64 0) := (bH BK208.out 0).trans rfl; have hcz31_1 : w29.cell? ⟨gb208, 1, none⟩ = some (.int .i64 0) := (bH BK208.out 1).trans rfl; have hfz31_0 := bJ BK208.out 0; have hfz31_1 := bJ BK208.out 1; have hcz32_0 : w29.cell? ⟨gb206, 0, none⟩ = some (.int .i64 a0_0) := (bH BK206.out 0).trans rfl; have hcz32_1 : w29.cell? ⟨gb206, 1, none⟩ = some (.slice (some ad207) l0_1.length c0_1) := (bH BK206.out 1).trans rfl; have hcz32_2 : w29.cell? ⟨gb206, 2, none⟩ = some (.slice A0_2 l0_2.length c0_2) := (bH BK206.out 2).trans rfl; have hcz32_3 : w29.cell? ⟨gb206, 3, none⟩ = some (.slice A0_3 l0_3.length c0_3) := (bH BK206.out 3).trans rfl; have hfz32_0 := bJ BK206.out 0; have hfz32_1 := bJ BK206.out 1; have hfz32_2 := bJ BK206.out 2; have hfz32_3 := bJ BK206.out 3))
            go_ret
            exact ⟨by first | rfl | (simp [errW_none, errW_some] <;> rfl) | (simp [*, errW_none, errW_some] <;> rfl), by repeat (first | (with_reducible first | exact HB.out | apply bC | apply bA | apply bB | refine bD ?_ GE206.out | refine bD ?_ GE208.out) | exact HB.out)⟩
           ·rw [if_neg c27] at H
            have c27b0 : decide (((rd_T117 l0_1 x3_2).f1) < 0) = false := decide_eq_false c27
            clear c27
            by_cases c33 : ((rd_T117 l0_1 x3_2).f1) ≥ a0_0
            ·rw [if_pos c33] at H
             have c33b0 : decide (a0_0 ≤ ((rd_T117 l0_1 x3_2).f1)) = true := decide_eq_true c33
             clear c33
             obtain rfl := Option.some.inj H
             have hcz34_0 : wr.cell? ⟨gb206, 0, none⟩ = some (.int .i64 a0_0) := (bH BK206.out 0).trans rfl
             have hcz34_1 : wr.cell? ⟨gb206, 1, none⟩ = some (.slice A0_1 l0_1.length c0_1) := (bH BK206.out 1).trans rfl
             have hcz34_2 : wr.cell? ⟨gb206, 2, none⟩ = some (.slice A0_2 l0_2.length c0_2) := (bH BK206.out 2).trans rfl
             have hcz34_3 : wr.cell? ⟨gb206, 3, none⟩ = some (.slice A0_3 l0_3.length c0_3) := (bH BK206.out 3).trans rfl
             have hfz34_0 := bJ BK206.out 0
             have hfz34_1 := bJ BK206.out 1
             have hfz34_2 := bJ BK206.out 2
             have hfz34_3 := bJ BK206.out 3
             have p207 : 0 ≤ (x3_2 : Int) := of_decide_eq_true (by first | (with_reducible assumption) | assumption)
             have q207 : x3_2 < (l0_1.length : Int) := of_decide_eq_true (by first | (with_reducible assumption) | assumption)
             obtain ⟨ad207, e207, hx207_0, hx207_1⟩ := at_T117 HR0_1.out x3_2 p207 q207
             cases e207
             replace hx207_0 := (HB.out.cell (World.block_lt_of_cell? w _ hx207_0)).trans hx207_0
             replace hx207_1 := (HB.out.cell (World.block_lt_of_cell? w _ hx207_1)).trans hx207_1
             replace p207 := eq_true p207
             replace q207 := eq_true q207
             go_wp2_with (first | ((with_reducible refine bZ (N := 4) rfl ?_); (try (refine cE (by rfl) ?_; dsimp only)); refine bY ?hg (N := 4) ?hd (cs := #[.int .i64 0, .int .i64 0]) (t := 117) ?hr ?_; (case hd => rfl); (case hg => rfl); (case hr => first | (go_simp; done) | (go_simp; rfl)); intro gb208 hg w35 hbox hb; have n0_ := Aside0.mk (bL (g := gb206) (o := .cells #[.int .i64 a0_0, .slice (some ad207) l0_1.length c0_1, .slice A0_2 l0_2.length c0_2, .slice A0_3 l0_3.length c0_3] 52 (0, 0)) (by (with_reducible repeat (first | refine bF ?_ _ | refine bG ?_ | refine bE ?_ _)); exact BK206.out) hb); have n1_ := Aside0.mk (bM (by repeat (first | (with_reducible first | exact HB.out | apply bC | apply bA | apply bB | refine bD ?_ GE206.out) | exact HB.out)) hb); have n2_ := Aside0.mk (hbox); have n3_ := Aside0.mk ((by rw [hg]; exact (bK (by repeat (first | (with_reducible first | exact HB.out | apply bC | apply bA | apply bB | refine bD ?_ GE206.out) | exact HB.out))) : w.heap.size ≤ gb208)); have n4_ := Aside0.mk ((by rw [hg]; exact (bK (by repeat (first | (with_reducible first | exact HB.out | apply bC | apply bA | apply bB | refine bD ?_ GE206.out) | exact HB.out))) : w.heap.size ≤ gb208)); have n5_ := Aside0.mk ((by rw [hg]; exact Nat.ne_of_lt (cD (g := gb206) (o := .cells #[.int .i64 a0_0, .slice (some ad207) l0_1.length c0_1, .slice A0_2 l0_2.length c0_2, .slice A0_3 l0_3.length c0_3] 52 (0, 0)) (by (with_reducible repeat (first | refine bF ?_ _ | refine bG ?_ | refine bE ?_ _)); exact BK206.out)) : gb206 ≠ gb208)); have n6_ := Aside0.mk ((by rw [hg]; exact Nat.ne_of_gt (cD (g := gb206) (o := .cells #[.int .i64 a0_0, .slice (some ad207) l0_1.length c0_1, .slice A0_2 l0_2.length c0_2, .slice A0_3 l0_3.length c0_3] 52 (0, 0)) (by (with_reducible repeat (first | refine bF ?_ _ | refine bG ?_ | refine bE ?_ _)); exact BK206.out)) : gb208 ≠ gb206)); clear BK206; clear HB; have BK206 := n0_; have HB := n1_; have BK208 := n2_; have GW208 := n3_; have GE208 := n4_; have NB206_208 := n5_; have NB208_206 := n6_; clear n0_ n1_ n2_ n3_ n4_ n5_ n6_; clear hb hbox hg; have hnb36 := NB208_206.out; have hnc36 := NB206_208.out; have hcz37_0 : w35.cell? ⟨gb208, 0, none⟩ = some (.int .i64 0) := (bH BK208.out 0).trans rfl; have hcz37_1 : w35.cell? ⟨gb208, 1, none⟩ = some (.int .i64 0) := (bH BK208.out 1).trans rfl; have hfz37_0 := bJ BK208.out 0; have hfz37_1 := bJ BK208.out 1; have hcz38_0 : w35.cell? ⟨gb206, 0, none⟩ = some (.int .i64 a0_0) := (bH BK206.out 0).trans rfl; have hcz38_1 : w35.cell? ⟨gb206, 1, none⟩ = some (.slice (some ad207) l0_1.length c0_1) := (bH BK206.out 1).trans rfl; have hcz38_2 : w35.cell? ⟨gb206, 2, none⟩ = some (.slice A0_2 l0_2.length c0_2) := (bH BK206.out 2).trans rfl; have hcz38_3 : w35.cell? ⟨gb206, 3, none⟩ = some (.slice A0_3 l0_3.length c0_3) := (bH BK206.out 3).trans rfl; have hfz38_0 := bJ BK206.out 0; have hfz38_1 := bJ BK206.out 1; have hfz38_2 := bJ BK206.out 2; have hfz38_3 := bJ BK206.out 3))
             go_ret
             exact ⟨by first | rfl | (simp [errW_none, errW_some] <;> rfl) | (simp [*, errW_none, errW_some] <;> rfl), by repeat (first | (with_reducible first | exact HB.out | apply bC | apply bA | apply bB | refine bD ?_ GE206.out | refine bD ?_ GE208.out) | exact HB.out)⟩
            ·rw [if_neg c33] at H
             have c33b0 : decide (a0_0 ≤ ((rd_T117 l0_1 x3_2).f1)) = false := decide_eq_false c33
             clear c33
             have H' := Aside0.mk H
             clear H
             have hcz39_0 : wr.cell? ⟨gb206, 0, none⟩ = some (.int .i64 a0_0) := (bH BK206.out 0).trans rfl
             have hcz39_1 : wr.cell? ⟨gb206, 1, none⟩ = some (.slice A0_1 l0_1.length c0_1) := (bH BK206.out 1).trans rfl
             have hcz39_2 : wr.cell? ⟨gb206, 2, none⟩ = some (.slice A0_2 l0_2.length c0_2) := (bH BK206.out 2).trans rfl
             have hcz39_3 : wr.cell? ⟨gb206, 3, none⟩ = some (.slice A0_3 l0_3.length c0_3) := (bH BK206.out 3).trans rfl
             have hfz39_0 := bJ BK206.out 0
             have hfz39_1 := bJ BK206.out 1
             have hfz39_2 := bJ BK206.out 2
             have hfz39_3 := bJ BK206.out 3
             have p207 : 0 ≤ (x3_2 : Int) := of_decide_eq_true (by first | (with_reducible assumption) | assumption)
             have q207 : x3_2 < (l0_1.length : Int) := of_decide_eq_true (by first | (with_reducible assumption) | assumption)
             obtain ⟨ad207, e207, hx207_0, hx207_1⟩ := at_T117 HR0_1.out x3_2 p207 q207
             cases e207
             replace hx207_0 := (HB.out.cell (World.block_lt_of_cell? w _ hx207_0)).trans hx207_0
             replace hx207_1 := (HB.out.cell (World.block_lt_of_cell? w _ hx207_1)).trans hx207_1
             replace p207 := eq_true p207
             replace q207 := eq_true q207
             go_wp2_with (first | ((with_reducible refine bZ (N := 4) rfl ?_); (try (refine cE (by rfl) ?_; dsimp only)); refine bY ?hg (N := 4) ?hd (cs := #[.int .i64 0, .int .i64 0]) (t := 117) ?hr ?_; (case hd => rfl); (case hg => rfl); (case hr => first | (go_simp; done) | (go_simp; rfl)); intro gb208 hg w40 hbox hb; have n0_ := Aside0.mk (bL (g := gb206) (o := .cells #[.int .i64 a0_0, .slice (some ad207) l0_1.length c0_1, .slice A0_2 l0_2.length c0_2, .slice A0_3 l0_3.length c0_3] 52 (0, 0)) (by (with_reducible repeat (first | refine bF ?_ _ | refine bG ?_ | refine bE ?_ _)); exact BK206.out) hb); have n1_ := Aside0.mk (bM (by repeat (first | (with_reducible first | exact HB.out | apply bC | apply bA | apply bB | refine bD ?_ GE206.out) | exact HB.out)) hb); have n2_ := Aside0.mk (hbox); have n3_ := Aside0.mk ((by rw [hg]; exact (bK (by repeat (first | (with_reducible first | exact HB.out | apply bC | apply bA | apply bB | refine bD ?_ GE206.out) | exact HB.out))) : w.heap.size ≤ gb208)); have n4_ := Aside0.mk ((by rw [hg]; exact (bK (by repeat (first | (with_reducible first | exact HB.out | apply bC | apply bA | apply bB | refine bD ?_ GE206.out) | exact HB.out))) : w.heap.size ≤ gb208)); have n5_ := Aside0.mk ((by rw [hg]; exact Nat.ne_of_lt (cD (g := gb206) (o := .cells #[.int .i64 a0_0, .slice (some ad207) l0_1.length c0_1, .slice A0_2 l0_2.length c0_2, .slice A0_3 l0_3.length c0_3] 52 (0, 0)) (by (with_reducible repeat (first | refine bF ?_ _ | refine bG ?_ | refine bE ?_ _)); exact BK206.out)) : gb206 ≠ gb208)); have n6_ := Aside0.mk ((by rw [hg]; exact Nat.ne_of_gt (cD (g := gb206) (o := .cells #[.int .i64 a0_0, .slice (some ad207) l0_1.length c0_1, .slice A0_2 l0_2.length c0_2, .slice A0_3 l0_3.length c0_3] 52 (0, 0)) (by (with_reducible repeat (first | refine bF ?_ _ | refine bG ?_ | refine bE ?_ _)); exact BK206.out)) : gb208 ≠ gb206)); clear BK206; clear HB; have BK206 := n0_; have HB := n1_; have BK208 := n2_; have GW208 := n3_; have GE208 := n4_; have NB206_208 := n5_; have NB208_206 := n6_; clear n0_ n1_ n2_ n3_ n4_ n5_ n6_; clear hb hbox hg; have hnb41 := NB208_206.out; have hnc41 := NB206_208.out; have hcz42_0 : w40.cell? ⟨gb208, 0, none⟩ = some (.int .i64 0) := (bH BK208.out 0).trans rfl; have hcz42_1 : w40.cell? ⟨gb208, 1, none⟩ = some (.int .i64 0) := (bH BK208.out 1).trans rfl; have hfz42_0 := bJ BK208.out 0; have hfz42_1 := bJ BK208.out 1; have hcz43_0 : w40.cell? ⟨gb206, 0, none⟩ = some (.int .i64 a0_0) := (bH BK206.out 0).trans rfl; have hcz43_1 : w40.cell? ⟨gb206, 1, none⟩ = some (.slice (some ad207) l0_1.length c0_1) := (bH BK206.out 1).trans rfl; have hcz43_2 : w40.cell? ⟨gb206, 2, none⟩ = some (.slice A0_2 l0_2.length c0_2) := (bH BK206.out 2).trans rfl; have hcz43_3 : w40.cell? ⟨gb206, 3, none⟩ = some (.slice A0_3 l0_3.length c0_3) := (bH BK206.out 3).trans rfl; have hfz43_0 := bJ BK206.out 0; have hfz43_1 := bJ BK206.out 1; have hfz43_2 := bJ BK206.out 2; have hfz43_3 := bJ BK206.out 3))
             go_roundg k2
             case measure => have := HJ4.out; have := HK2.out; omega
             case rel => exact ⟨(wrap64 (x3_2 + 1)), (by first | rfl | (simp; done) | (simp [*]; done)), H', ⟨by have := HJ4.out; have := HK2.out; omega⟩, ⟨by (with_reducible repeat (first | refine bF ?_ _ | refine bG ?_ | refine bE ?_ _)); refine blk_far ?_ NB206_208.out _; (with_reducible repeat (first | refine bF ?_ _ | refine bG ?_ | refine bE ?_ _)); refine blk_far ?_ NB206_208.out _; (with_reducible repeat (first | refine bF ?_ _ | refine bG ?_ | refine bE ?_ _)); exact BK206.out⟩, ⟨by repeat (first | (with_reducible first | exact HB.out | apply bC | apply bA | apply bB | refine bD ?_ GE206.out | refine bD ?_ GE208.out) | exact HB.out)⟩⟩
        ·rw [if_neg c15] at H
         exact absurd H (by simp)
       ·rw [if_neg c14] at H
        have c14b0 : decide (x3_2 < (l0_1.length : Int)) = false := decide_eq_false c14
        clear c14
        have H' := Aside0.mk H
        clear H
        have hcz44_0 : wr.cell? ⟨gb206, 0, none⟩ = some (.int .i64 a0_0) := (bH BK206.out 0).trans rfl
        have hcz44_1 : wr.cell? ⟨gb206, 1, none⟩ = some (.slice A0_1 l0_1.length c0_1) := (bH BK206.out 1).trans rfl
        have hcz44_2 : wr.cell? ⟨gb206, 2, none⟩ = some (.slice A0_2 l0_2.length c0_2) := (bH BK206.out 2).trans rfl
        have hcz44_3 : wr.cell? ⟨gb206, 3, none⟩ = some (.slice A0_3 l0_3.length c0_3) := (bH BK206.out 3).trans rfl
        have hfz44_0 := bJ BK206.out 0
        have hfz44_1 := bJ BK206.out 1
        have hfz44_2 := bJ BK206.out 2
        have hfz44_3 := bJ BK206.out 3
        go_wp2
        go_loopg [5] k2 (fun kq v5 w' => ∃ (x5_3 : Int), v5 = .int .i64 x5_3 ∧ Aside0 (easementref17_Check.l1 kq x5_3 a0_0 l0_1 l0_2 l0_3 = some r) ∧ Aside0 (kq ≤ k2) ∧ Aside0 (w'.heap[gb206]? = some (.cells #[.int .i64 a0_0, (.slice A0_1 l0_1.length c0_1), (.slice A0_2 l0_2.length c0_2), (.slice A0_3 l0_3.length c0_3)] 52 (0, 0))) ∧ Aside0 (Below w.heap.size w w'))
        case atStart => exact ⟨(0), (by first | rfl | (simp; done) | (simp [*]; done)), H', ⟨Nat.le_refl _⟩, ⟨by (with_reducible repeat (first | refine bF ?_ _ | refine bG ?_ | refine bE ?_ _)); exact BK206.out⟩, ⟨by repeat (first | (with_reducible first | exact HB.out | apply bC | apply bA | apply bB | refine bD ?_ GE206.out) | exact HB.out)⟩⟩
        case round =>
         clear H'
         try clear c1
         try clear c2
         try clear c2b0
         try clear p2
         try clear q2
         try clear hx2
         try clear c3
         try clear c4
         try clear p6
         try clear c8
         try clear c8b0
         try clear c10
         try clear c10b0
         try clear c10b1
         try clear c13
         try clear c14
         try clear c14b0
         try clear c15
         try clear c15b0
         try clear c16
         try clear c16b0
         try clear c19
         try clear p20
         try clear q20
         try clear hx20
         try clear c21
         try clear c21b0
         try clear c24
         try clear c27
         try clear c27b0
         try clear c30
         try clear c33
         try clear c33b0
         try clear c36
         try clear c41
         try clear hcz11_0
         try clear hcz11_1
         try clear hcz11_2
         try clear hcz11_3
         try clear hcz12_0
         try clear hcz12_1
         try clear hcz12_2
         try clear hcz12_3
         try clear hcz17_0
         try clear hcz17_1
         try clear hcz17_2
         try clear hcz17_3
         try clear hcz20_0
         try clear hcz20_1
         try clear hcz22_0
         try clear hcz22_1
         try clear hcz22_2
         try clear hcz22_3
         try clear hcz25_0
         try clear hcz25_1
         try clear hcz26_0
         try clear hcz26_1
         try clear hcz26_2
         try clear hcz26_3
         try clear hcz28_0
         try clear hcz28_1
         try clear hcz28_2
         try clear hcz28_3
         try clear hcz31_0
         try clear hcz31_1
         try clear hcz32_0
         try clear hcz32_1
         try clear hcz32_2
         try clear hcz32_3
         try clear hcz34_0
         try clear hcz34_1
         try clear hcz34_2
         try clear hcz34_3
         try clear hcz37_0
         try clear hcz37_1
         try clear hcz38_0
         try clear hcz38_1
         try clear hcz38_2
         try clear hcz38_3
         try clear hcz39_0
         try clear hcz39_1
         try clear hcz39_2
         try clear hcz39_3
         try clear hcz42_0
         try clear hcz42_1
         try clear hcz43_0
         try clear hcz43_1
         try clear hcz43_2
         try clear hcz43_3
         try clear hcz44_0
         try clear hcz44_1
         try clear hcz44_2
         try clear hcz44_3
         try clear hcz4_0
         try clear hcz4_1
         try clear hcz4_2
         try clear hcz4_3
         try clear hcz7_0
         try clear hcz7_1
         try clear hcz7_2
         try clear hcz7_3
         try clear hcz9_0
         try clear hcz9_1
         try clear hcz9_2
         try clear hcz9_3
         try clear hfz11_0
         try clear hfz11_1
         try clear hfz11_2
         try clear hfz11_3
         try clear hfz12_0
         try clear hfz12_1
         try clear hfz12_2
         try clear hfz12_3
         try clear hfz17_0
         try clear hfz17_1
         try clear hfz17_2
         try clear hfz17_3
         try clear hfz20_0
         try clear hfz20_1
         try clear hfz22_0
         try clear hfz22_1
         try clear hfz22_2
         try clear hfz22_3
         try clear hfz25_0
         try clear hfz25_1
         try clear hfz26_0
         try clear hfz26_1
         try clear hfz26_2
         try clear hfz26_3
         try clear hfz28_0
         try clear hfz28_1
         try clear hfz28_2
         try clear hfz28_3
         try clear hfz31_0
         try clear hfz31_1
         try clear hfz32_0
         try clear hfz32_1
         try clear hfz32_2
         try clear hfz32_3
         try clear hfz34_0
         try clear hfz34_1
         try clear hfz34_2
         try clear hfz34_3
         try clear hfz37_0
         try clear hfz37_1
         try clear hfz38_0
         try clear hfz38_1
         try clear hfz38_2
         try clear hfz38_3
         try clear hfz39_0
         try clear hfz39_1
         try clear hfz39_2
         try clear hfz39_3
         try clear hfz42_0
         try clear hfz42_1
         try clear hfz43_0
         try clear hfz43_1
         try clear hfz43_2
         try clear hfz43_3
         try clear hfz44_0
         try clear hfz44_1
         try clear hfz44_2
         try clear hfz44_3
         try clear hfz4_0
         try clear hfz4_1
         try clear hfz4_2
         try clear hfz4_3
         try clear hfz7_0
         try clear hfz7_1
         try clear hfz7_2
         try clear hfz7_3
         try clear hfz9_0
         try clear hfz9_1
         try clear hfz9_2
         try clear hfz9_3
         try clear hx207_0
         try clear hx207_1
         try clear p2
         try clear p207
         try clear q207
         obtain ⟨x5_3, rfl, HA, HK3, BK206, HB⟩ := hrel
         cases gk with
         | zero => exact absurd HA.out (by simp [easementref17_Check.l1])
         | succ k3 =>
          have H := HA.out
          clear HA
          simp only [easementref17_Check.l1] at H
          by_cases c45 : x5_3 < (l0_2.length : Int)
          ·rw [if_pos c45] at H
           have c45b0 : decide (x5_3 < (l0_2.length : Int)) = true := decide_eq_true c45
           clear c45
           by_cases c46 : 0 ≤ x5_3
           ·rw [if_pos c46] at H
            have c46b0 : decide (0 ≤ x5_3) = true := decide_eq_true c46
            clear c46
            replace H := Option.bind_eq_some_iff.mp H
            obtain ⟨t210, A470, H⟩ := H
            replace H : (if t210 = 0 then (easementref17_Check.l1 k3 (wrap64 (x5_3 + 1)) a0_0 l0_1 l0_2 l0_3) else (some t210)) = some r := H
            have A47 := Aside0.mk A470
            clear A470
            by_cases c48 : t210 = 0
            ·rw [if_pos c48] at H
             have c48b0 : (t210 == 0) = true := beq_iff_eq.mpr c48
             have c48b1 : (t210 != 0) = false := bne_eq_false_iff_eq.mpr c48
             clear c48
             have H' := Aside0.mk H
             clear H
             have hcz49_0 : wr.cell? ⟨gb206, 0, none⟩ = some (.int .i64 a0_0) := (bH BK206.out 0).trans rfl
             have hcz49_1 : wr.cell? ⟨gb206, 1, none⟩ = some (.slice A0_1 l0_1.length c0_1) := (bH BK206.out 1).trans rfl
             have hcz49_2 : wr.cell? ⟨gb206, 2, none⟩ = some (.slice A0_2 l0_2.length c0_2) := (bH BK206.out 2).trans rfl
             have hcz49_3 : wr.cell? ⟨gb206, 3, none⟩ = some (.slice A0_3 l0_3.length c0_3) := (bH BK206.out 3).trans rfl
             have hfz49_0 := bJ BK206.out 0
             have hfz49_1 := bJ BK206.out 1
             have hfz49_2 := bJ BK206.out 2
             have hfz49_3 := bJ BK206.out 3
             try go_wp2
             have n0_ := Aside0.mk (bG BK206.out)
             have n1_ := Aside0.mk (bB HB.out)
             clear BK206
             clear HB
             have BK206 := n0_
             have HB := n1_
             clear n0_ n1_
             have p209 : 0 ≤ (x5_3 : Int) := of_decide_eq_true (by first | (with_reducible assumption) | assumption)
             have q209 : x5_3 < (l0_2.length : Int) := of_decide_eq_true (by first | (with_reducible assumption) | assumption)
             obtain ⟨ad209, A209_0, c209_0, e209, hx209_0, hl209_0, hi209_0⟩ := at_T44 HR0_2.out x5_3 p209 q209
             have hw209_0 := hx209_0
             cases e209
             replace hx209_0 := (HB.out.cell (World.block_lt_of_cell? w _ hx209_0)).trans hx209_0
             have HR209_0 := Aside0.mk hi209_0
             have HC209_0 := Aside0.mk hl209_0
             clear hi209_0 hl209_0
             replace p209 := eq_true p209
             replace q209 := eq_true q209
             refine start_ (n := 9) (S := fun w' => w'.cell? ⟨gb206, 0, none⟩ = some (.int .i64 a0_0) ∧ w'.cell? ⟨gb206, 1, none⟩ = some (.slice A0_1 l0_1.length c0_1) ∧ w'.cell? ⟨gb206, 2, none⟩ = some (.slice (some ad209) l0_2.length c0_2) ∧ w'.cell? ⟨gb206, 3, none⟩ = some (.slice A0_3 l0_3.length c0_3) ∧ w'.cell? (ad209.add (x5_3).toNat) = some (.slice A209_0 ((rd_T44 l0_2 x5_3).f0).length c209_0)) (ds := []) #[false, false, false, false, false, false, false, false, false] (by kernel_rfl) rfl rfl ⟨(bH BK206.out 0).trans rfl, (bH BK206.out 1).trans rfl, (bH BK206.out 2).trans rfl, (bH BK206.out 3).trans rfl, ((HB.out.cell (World.block_lt_of_cell? w _ hw209_0)).trans hw209_0)⟩ (fun hHeld => ?_); refine with_tabW easementref17_Check.tab14 easementref17_Check.bits14 (fun HT_ HW_ => ?_)
             generalize wr.drew = w50 at BK206 HB HR209_0 hx209_0 hHeld ⊢
             refine bX (i := 0) (N := some 66) (v := ?_) (a' := ?_) #[true, false, false, false, false, false, false, false, false] rfl rfl (bS HT_.out (by kernel_rfl)) (fun _ _ _ h => h) (Or.inl ⟨by rfl, ?_⟩) ?_ ?_
             rotate_left
             ·intro w'
              go_simp
              with_reducible rfl
             rotate_left
             ·simp only [Act.put, sZ1, sZ2, sZ3, bN, bP]
              rfl
             refine bX (i := 2) (N := some 68) (v := ?_) (a' := ?_) #[true, false, true, false, false, false, false, false, false] rfl rfl (bS HT_.out (by kernel_rfl)) (fun _ _ _ h => h) (Or.inl ⟨by rfl, ?_⟩) ?_ ?_
             rotate_left
             ·intro w'
              go_simp
              with_reducible rfl
             rotate_left
             ·simp only [Act.put, sZ1, sZ2, sZ3, bN, bP]
              rfl
             refine bX (i := 5) (N := some 71) (v := ?_) (a' := ?_) #[true, false, true, false, false, true, false, false, false] rfl rfl (bS HT_.out (by kernel_rfl)) (fun _ _ _ h => h) (Or.inl ⟨by rfl, ?_⟩) ?_ ?_
             rotate_left
             ·intro w'
              go_simp
              with_reducible rfl
             rotate_left
             ·simp only [Act.put, sZ1, sZ2, sZ3, bN, bP]
              rfl
             refine take_ (i := 1) (N := some 67) (v := ?_) (a' := ?_) #[true, true, true, false, false, true, false, false, false] rfl rfl (take_ofW HT_.out HW_.out (by kernel_rfl)) (fun _ _ _ h => h) (Or.inl ⟨by rfl, ?_⟩) hHeld ?_ ?_
             rotate_left
             ·rintro w' ⟨s0, s1, s2, s3, s4⟩
              go_simp
              with_reducible rfl
             rotate_left
             ·simp only [Act.put, sZ1, sZ2, sZ3, bN, bP]
              rfl
             refine bX (i := 3) (N := some 69) (v := ?_) (a' := ?_) #[true, true, true, true, false, true, false, false, false] rfl rfl (bS HT_.out (by kernel_rfl)) (fun _ _ _ h => h) (Or.inl ⟨by rfl, ?_⟩) ?_ ?_
             rotate_left
             ·intro w'
              go_simp
              with_reducible rfl
             rotate_left
             ·simp only [Act.put, sZ1, sZ2, sZ3, bN, bP]
              rfl
             refine take_ (i := 4) (N := some 70) (v := ?_) (a' := ?_) #[true, true, true, true, true, true, false, false, false] rfl rfl (take_ofW HT_.out HW_.out (by kernel_rfl)) (fun _ _ _ h => h) (Or.inl ⟨by rfl, ?_⟩) hHeld ?_ ?_
             rotate_left
             ·rintro w' ⟨s0, s1, s2, s3, s4⟩
              go_simp
              with_reducible rfl
             rotate_left
             ·simp only [Act.put, sZ1, sZ2, sZ3, bN, bP]
              rfl
             refine take_ (i := 6) (N := some 72) (v := ?_) (a' := ?_) #[true, true, true, true, true, true, true, false, false] rfl rfl (take_ofW HT_.out HW_.out (by kernel_rfl)) (fun _ _ _ h => h) (Or.inl ⟨by rfl, ?_⟩) hHeld ?_ ?_
             rotate_left
             ·rintro w' ⟨s0, s1, s2, s3, s4⟩
              go_simp
              with_reducible rfl
             rotate_left
             ·simp only [Act.put, sZ1, sZ2, sZ3, bN, bP]
              rfl
             refine one_ (i := 7) (N := some 73) #[true, true, true, true, true, true, true, true, false] rfl rfl (one_of HT_.out (by kernel_rfl)) (by decide) (fun K hK => ?_)
             refine goes_ Try.func95 (by kernel_rfl) rfl #[.agg #[.slice A209_0 ((rd_T44 l0_2 x5_3).f0).length c209_0], .int .i64 a0_0] (by rfl) rfl rfl (by (try simp only [List.map_toArray, List.map_cons, List.map_nil]); first | done | rfl | (simp only [List.length_drop, List.length_take]; rfl)) ?_
             with_reducible refine (easementref15_Check.calls k3 _ _ ((rd_T44 l0_2 x5_3).f0) a0_0 t210 _ ?side1 ?side2 A47.out).mono ?_
             (case side1 => repeat (first | exact (Kd.bW HR209_0.out HB.out) | (with_reducible refine Kd.bV ?_ _) | (with_reducible refine Kd.bU ?_ _) | (with_reducible refine Kd.cA ?_)))
             (case side2 => exact HC209_0.out)
             rintro e w51 ⟨rfl, hb⟩
             refine ⟨_, rfl, ?_⟩
             have n0_ := Aside0.mk (bL (g := gb206) (o := .cells #[.int .i64 a0_0, .slice A0_1 l0_1.length c0_1, .slice (some ad209) l0_2.length c0_2, .slice A0_3 l0_3.length c0_3] 52 (0, 0)) (by (with_reducible repeat (first | refine bF ?_ _ | refine bG ?_ | refine bE ?_ _)); exact BK206.out) hb)
             have n1_ := Aside0.mk (bM (by repeat (first | (with_reducible first | exact HB.out | apply bC | apply bA | apply bB | refine bD ?_ GE206.out) | exact HB.out)) hb)
             clear BK206
             clear HB
             have BK206 := n0_
             have HB := n1_
             clear n0_ n1_
             (try clear hb)
             (try clear hb2)
             (try clear hk)
             (try clear hi)
             refine hK.out _ _ ⟨(bH BK206.out 0).trans rfl, (bH BK206.out 1).trans rfl, (bH BK206.out 2).trans rfl, (bH BK206.out 3).trans rfl, ((HB.out.cell (World.block_lt_of_cell? w _ hw209_0)).trans hw209_0)⟩ (fun hHeld => ?_)
             clear hK K
             refine norm_ (a' := ?_) ?_ ?_
             rotate_left
             ·show Act.put _ (some 73) _ = _
              simp only [Act.put, sZ1, sZ2, sZ3, bN, bP]
              rfl
             refine bX (i := 8) (N := some 6) (v := ?_) (a' := ?_) #[true, true, true, true, true, true, true, true, true] rfl rfl (bS HT_.out (by kernel_rfl)) (fun _ _ _ h => h) (Or.inl ⟨by rfl, ?_⟩) ?_ ?_
             rotate_left
             ·intro w'
              go_simp
              with_reducible rfl
             rotate_left
             ·simp only [Act.put, sZ1, sZ2, sZ3, bN, bP]
              rfl
             refine done_ (done_of HT_.out (by kernel_rfl)) ?_
             try go_wp2
             go_roundg k3
             case measure => have := HJ4.out; have := HK2.out; have := HK3.out; omega
             case rel => exact ⟨(wrap64 (x5_3 + 1)), (by first | rfl | (simp; done) | (simp [*]; done)), H', ⟨by have := HJ4.out; have := HK2.out; have := HK3.out; omega⟩, ⟨by (with_reducible repeat (first | refine bF ?_ _ | refine bG ?_ | refine bE ?_ _)); exact BK206.out⟩, ⟨by repeat (first | (with_reducible first | exact HB.out | apply bC | apply bA | apply bB | refine bD ?_ GE206.out) | exact HB.out)⟩⟩
            ·rw [if_neg c48] at H
             have c48b0 : (t210 == 0) = false := beq_eq_false_iff_ne.mpr c48
             have c48b1 : (t210 != 0) = true := bne_iff_ne.mpr c48
             obtain rfl := Option.some.inj H
             have hcz52_0 : wr.cell? ⟨gb206, 0, none⟩ = some (.int .i64 a0_0) := (bH BK206.out 0).trans rfl
             have hcz52_1 : wr.cell? ⟨gb206, 1, none⟩ = some (.slice A0_1 l0_1.length c0_1) := (bH BK206.out 1).trans rfl
             have hcz52_2 : wr.cell? ⟨gb206, 2, none⟩ = some (.slice A0_2 l0_2.length c0_2) := (bH BK206.out 2).trans rfl
             have hcz52_3 : wr.cell? ⟨gb206, 3, none⟩ = some (.slice A0_3 l0_3.length c0_3) := (bH BK206.out 3).trans rfl
             have hfz52_0 := bJ BK206.out 0
             have hfz52_1 := bJ BK206.out 1
             have hfz52_2 := bJ BK206.out 2
             have hfz52_3 := bJ BK206.out 3
             try go_wp2
             have n0_ := Aside0.mk (bG BK206.out)
             have n1_ := Aside0.mk (bB HB.out)
             clear BK206
             clear HB
             have BK206 := n0_
             have HB := n1_
             clear n0_ n1_
             have p209 : 0 ≤ (x5_3 : Int) := of_decide_eq_true (by first | (with_reducible assumption) | assumption)
             have q209 : x5_3 < (l0_2.length : Int) := of_decide_eq_true (by first | (with_reducible assumption) | assumption)
             obtain ⟨ad209, A209_0, c209_0, e209, hx209_0, hl209_0, hi209_0⟩ := at_T44 HR0_2.out x5_3 p209 q209
             have hw209_0 := hx209_0
             cases e209
             replace hx209_0 := (HB.out.cell (World.block_lt_of_cell? w _ hx209_0)).trans hx209_0
             have HR209_0 := Aside0.mk hi209_0
             have HC209_0 := Aside0.mk hl209_0
             clear hi209_0 hl209_0
             replace p209 := eq_true p209
             replace q209 := eq_true q209
             refine start_ (n := 9) (S := fun w' => w'.cell? ⟨gb206, 0, none⟩ = some (.int .i64 a0_0) ∧ w'.cell? ⟨gb206, 1, none⟩ = some (.slice A0_1 l0_1.length c0_1) ∧ w'.cell? ⟨gb206, 2, none⟩ = some (.slice (some ad209) l0_2.length c0_2) ∧ w'.cell? ⟨gb206, 3, none⟩ = some (.slice A0_3 l0_3.length c0_3) ∧ w'.cell? (ad209.add (x5_3).toNat) = some (.slice A209_0 ((rd_T44 l0_2 x5_3).f0).length c209_0)) (ds := []) #[false, false, false, false, false, false, false, false, false] (by kernel_rfl) rfl rfl ⟨(bH BK206.out 0).trans rfl, (bH BK206.out 1).trans rfl, (bH BK206.out 2).trans rfl, (bH BK206.out 3).trans rfl, ((HB.out.cell (World.block_lt_of_cell? w _ hw209_0)).trans hw209_0)⟩ (fun hHeld => ?_); refine with_tabW easementref17_Check.tab14 easementref17_Check.bits14 (fun HT_ HW_ => ?_)
             generalize wr.drew = w53 at BK206 HB HR209_0 hx209_0 hHeld ⊢
             refine bX (i := 0) (N := some 66) (v := ?_) (a' := ?_) #[true, false, false, false, false, false, false, false, false] rfl rfl (bS HT_.out (by kernel_rfl)) (fun _ _ _ h => h) (Or.inl ⟨by rfl, ?_⟩) ?_ ?_
             rotate_left
             ·intro w'
              go_simp
              with_reducible rfl
             rotate_left
             ·simp only [Act.put, sZ1, sZ2, sZ3, bN, bP]
              rfl
             refine bX (i := 2) (N := some 68) (v := ?_) (a' := ?_) #[true, false, true, false, false, false, false, false, false] rfl rfl (bS HT_.out (by kernel_rfl)) (fun _ _ _ h => h) (Or.inl ⟨by rfl, ?_⟩) ?_ ?_
             rotate_left
             ·intro w'
              go_simp
              with_reducible rfl
             rotate_left
             ·simp only [Act.put, sZ1, sZ2, sZ3, bN, bP]
              rfl
             refine bX (i := 5) (N := some 71) (v := ?_) (a' := ?_) #[true, false, true, false, false, true, false, false, false] rfl rfl (bS HT_.out (by kernel_rfl)) (fun _ _ _ h => h) (Or.inl ⟨by rfl, ?_⟩) ?_ ?_
             rotate_left
             ·intro w'
              go_simp
              with_reducible rfl
             rotate_left
             ·simp only [Act.put, sZ1, sZ2, sZ3, bN, bP]
              rfl
             refine take_ (i := 1) (N := some 67) (v := ?_) (a' := ?_) #[true, true, true, false, false, true, false, false, false] rfl rfl (take_ofW HT_.out HW_.out (by kernel_rfl)) (fun _ _ _ h => h) (Or.inl ⟨by rfl, ?_⟩) hHeld ?_ ?_
             rotate_left
             ·rintro w' ⟨s0, s1, s2, s3, s4⟩
              go_simp
              with_reducible rfl
             rotate_left
             ·simp only [Act.put, sZ1, sZ2, sZ3, bN, bP]
              rfl
             refine bX (i := 3) (N := some 69) (v := ?_) (a' := ?_) #[true, true, true, true, false, true, false, false, false] rfl rfl (bS HT_.out (by kernel_rfl)) (fun _ _ _ h => h) (Or.inl ⟨by rfl, ?_⟩) ?_ ?_
             rotate_left
             ·intro w'
              go_simp
              with_reducible rfl
             rotate_left
             ·simp only [Act.put, sZ1, sZ2, sZ3, bN, bP]
              rfl
             refine take_ (i := 4) (N := some 70) (v := ?_) (a' := ?_) #[true, true, true, true, true, true, false, false, false] rfl rfl (take_ofW HT_.out HW_.out (by kernel_rfl)) (fun _ _ _ h => h) (Or.inl ⟨by rfl, ?_⟩) hHeld ?_ ?_
             rotate_left
             ·rintro w' ⟨s0, s1, s2, s3, s4⟩
              go_simp
              with_reducible rfl
             rotate_left
             ·simp only [Act.put, sZ1, sZ2, sZ3, bN, bP]
              rfl
             refine take_ (i := 6) (N := some 72) (v := ?_) (a' := ?_) #[true, true, true, true, true, true, true, false, false] rfl rfl (take_ofW HT_.out HW_.out (by kernel_rfl)) (fun _ _ _ h => h) (Or.inl ⟨by rfl, ?_⟩) hHeld ?_ ?_
             rotate_left
             ·rintro w' ⟨s0, s1, s2, s3, s4⟩
              go_simp
              with_reducible rfl
             rotate_left
             ·simp only [Act.put, sZ1, sZ2, sZ3, bN, bP]
              rfl
             refine one_ (i := 7) (N := some 73) #[true, true, true, true, true, true, true, true, false] rfl rfl (one_of HT_.out (by kernel_rfl)) (by decide) (fun K hK => ?_)
             refine goes_ Try.func95 (by kernel_rfl) rfl #[.agg #[.slice A209_0 ((rd_T44 l0_2 x5_3).f0).length c209_0], .int .i64 a0_0] (by rfl) rfl rfl (by (try simp only [List.map_toArray, List.map_cons, List.map_nil]); first | done | rfl | (simp only [List.length_drop, List.length_take]; rfl)) ?_
             with_reducible refine (easementref15_Check.calls k3 _ _ ((rd_T44 l0_2 x5_3).f0) a0_0 t210 _ ?side1 ?side2 A47.out).mono ?_
             (case side1 => repeat (first | exact (Kd.bW HR209_0.out HB.out) | (with_reducible refine Kd.bV ?_ _) | (with_reducible refine Kd.bU ?_ _) | (with_reducible refine Kd.cA ?_)))
             (case side2 => exact HC209_0.out)
             rintro e w54 ⟨rfl, hb⟩
             refine ⟨_, rfl, ?_⟩
             have n0_ := Aside0.mk (bL (g := gb206) (o := .cells #[.int .i64 a0_0, .slice A0_1 l0_1.length c0_1, .slice (some ad209) l0_2.length c0_2, .slice A0_3 l0_3.length c0_3] 52 (0, 0)) (by (with_reducible repeat (first | refine bF ?_ _ | refine bG ?_ | refine bE ?_ _)); exact BK206.out) hb)
             have n1_ := Aside0.mk (bM (by repeat (first | (with_reducible first | exact HB.out | apply bC | apply bA | apply bB | refine bD ?_ GE206.out) | exact HB.out)) hb)
             clear BK206
             clear HB
             have BK206 := n0_
             have HB := n1_
             clear n0_ n1_
             (try clear hb)
             (try clear hb2)
             (try clear hk)
             (try clear hi)
             refine hK.out _ _ ⟨(bH BK206.out 0).trans rfl, (bH BK206.out 1).trans rfl, (bH BK206.out 2).trans rfl, (bH BK206.out 3).trans rfl, ((HB.out.cell (World.block_lt_of_cell? w _ hw209_0)).trans hw209_0)⟩ (fun hHeld => ?_)
             clear hK K
             refine norm_ (a' := ?_) ?_ ?_
             rotate_left
             ·show Act.put _ (some 73) _ = _
              simp only [Act.put, sZ1, sZ2, sZ3, bN, bP]
              rfl
             refine bX (i := 8) (N := some 6) (v := ?_) (a' := ?_) #[true, true, true, true, true, true, true, true, true] rfl rfl (bS HT_.out (by kernel_rfl)) (fun _ _ _ h => h) (Or.inl ⟨by rfl, ?_⟩) ?_ ?_
             rotate_left
             ·intro w'
              go_simp
              with_reducible rfl
             rotate_left
             ·simp only [Act.put, sZ1, sZ2, sZ3, bN, bP]
              rfl
             refine done_ (done_of HT_.out (by kernel_rfl)) ?_
             try go_wp2
             go_ret
             exact ⟨by first | rfl | (simp [errW_none, errW_some] <;> rfl) | (simp [*, errW_none, errW_some] <;> rfl), by repeat (first | (with_reducible first | exact HB.out | apply bC | apply bA | apply bB | refine bD ?_ GE206.out) | exact HB.out)⟩
           ·rw [if_neg c46] at H
            exact absurd H (by simp)
          ·rw [if_neg c45] at H
           have c45b0 : decide (x5_3 < (l0_2.length : Int)) = false := decide_eq_false c45
           clear c45
           replace H := Option.bind_eq_some_iff.mp H
           obtain ⟨t211, A550, H⟩ := H
           replace H : (some t211) = some r := H
           have A55 := Aside0.mk A550
           clear A550
           obtain rfl := Option.some.inj H
           have hcz56_0 : wr.cell? ⟨gb206, 0, none⟩ = some (.int .i64 a0_0) := (bH BK206.out 0).trans rfl
           have hcz56_1 : wr.cell? ⟨gb206, 1, none⟩ = some (.slice A0_1 l0_1.length c0_1) := (bH BK206.out 1).trans rfl
           have hcz56_2 : wr.cell? ⟨gb206, 2, none⟩ = some (.slice A0_2 l0_2.length c0_2) := (bH BK206.out 2).trans rfl
           have hcz56_3 : wr.cell? ⟨gb206, 3, none⟩ = some (.slice A0_3 l0_3.length c0_3) := (bH BK206.out 3).trans rfl
           have hfz56_0 := bJ BK206.out 0
           have hfz56_1 := bJ BK206.out 1
           have hfz56_2 := bJ BK206.out 2
           have hfz56_3 := bJ BK206.out 3
           go_wp2_with (first | ((with_reducible refine cB (f := 95) rfl ?_); refine goesL_ (some 81) rfl rfl Try.func95 (by kernel_rfl) rfl #[.agg #[.slice A0_3 l0_3.length c0_3], .int .i64 a0_0] rfl (by (try simp only [List.map_toArray, List.map_cons, List.map_nil]); first | done | rfl | (simp only [List.length_drop, List.length_take]; rfl)) ?_; (with_reducible refine (easementref15_Check.calls k3 _ _ l0_3 a0_0 t211 _ ?side1 ?side2 A55.out).mono ?_); (case side1 => repeat (first | exact (Kd.bW HR0_3.out HB.out) | (with_reducible refine Kd.bV ?_ _) | (with_reducible refine Kd.bU ?_ _) | (with_reducible refine Kd.cA ?_))); (case side2 => exact HC0_3.out); rintro e w57 ⟨rfl, hb⟩; refine ⟨_, rfl, ?_⟩; have n0_ := Aside0.mk (bL (g := gb206) (o := .cells #[.int .i64 a0_0, .slice A0_1 l0_1.length c0_1, .slice A0_2 l0_2.length c0_2, .slice A0_3 l0_3.length c0_3] 52 (0, 0)) (by (with_reducible repeat (first | refine bF ?_ _ | refine bG ?_ | refine bE ?_ _)); exact BK206.out) hb); have n1_ := Aside0.mk (bM (by repeat (first | (with_reducible first | exact HB.out | apply bC | apply bA | apply bB | refine bD ?_ GE206.out) | exact HB.out)) hb); clear BK206; clear HB; have BK206 := n0_; have HB := n1_; clear n0_ n1_; (try clear hb); (try clear hb2); (try clear hk); (try clear hi)))
           go_ret
           exact ⟨by first | rfl | (simp [errW_none, errW_some] <;> rfl) | (simp [*, errW_none, errW_some] <;> rfl), by repeat (first | (with_reducible first | exact HB.out | apply bC | apply bA | apply bB | refine bD ?_ GE206.out) | exact HB.out)⟩

end Go.Proofs.Ythhebinonpoddaa.GSigCalls
