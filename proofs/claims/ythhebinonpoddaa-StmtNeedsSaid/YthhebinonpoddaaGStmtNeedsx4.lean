/- Written for this claim by gp.py, a program of this session's, over the kit's print. Lean checks it. -/
import Derived.Test.YthhebinonpoddaaGStmtNeedsx0
import Derived.Test.YthhebinonpoddaaGStmtNeedsx1
import Derived.Test.YthhebinonpoddaaGStmtNeedsx3
namespace Go.Proofs.Ythhebinonpoddaa.GStmtNeeds
open Go.RowKit Go.Proofs.YthhebinonpoddaaW.PrintWords Go.Proofs.YthhebinonpoddaaW.PrintLast Go.Proofs.YthhebinonpoddaaW.PrintMore
attribute [local go_sem] max2_int min2_int max_two min_two max_three min_three max_four min_four   -- for this text's walks alone
set_option linter.unusedVariables false
set_option linter.unusedSimpArgs false

attribute [local go_sem high] eqA23
/-! ### stmt_form: function 64 -/
def stmt_form.j0 : Nat → Bool → Int → Int → Int → Int → Bool → Bool → Bool → Bool → Int → Int → Int → Int → Bool → Option (Bool × Bool × Bool × Bool)
 | 0, _, _, _, _, _, _, _, _, _, _, _, _, _, _ => none
 | k + 1, x5, x103000, x103001, x103002, x103003, x103004, x109000, x109001, x109002, x110000, x110001, x110002, x110003, x110004 => if x109001 = true then (if x109002 = true then (if x5 = true then (some (x109000, x109001, x109002, (x110000 == x103000 && (x110001 == x103001)))) else (some (x109000, x109001, x109002, false))) else (if x5 = true then (some (x109000, x109001, x109002, (x110000 == x103000 && (x110001 == x103001 && (x110003 == x103003 && (x110004 == x103004)))))) else (some (x109000, x109001, x109002, false)))) else (if x109002 = true then (if x5 = true then (some (x109000, x109001, x109002, (x110000 == x103000 && (x110001 == x103001 && (x110002 == x103002))))) else (some (x109000, x109001, x109002, false))) else (if x5 = true then (some (x109000, x109001, x109002, (x110000 == x103000 && (x110001 == x103001 && (x110002 == x103002 && (x110003 == x103003 && (x110004 == x103004))))))) else (some (x109000, x109001, x109002, false))))
def stmt_form.f (k : Nat) (a0_0 : Int) (a0_1 : Int) (a0_2 : Int) (a0_3 : Int) (a0_4 : Bool) : Option (Bool × Bool × Bool × Bool) := (stmt_of.f k a0_0).bind fun bt104 => (if bt104.1 = true then (stmt_form.j0 k bt104.2.2.2 a0_0 a0_1 a0_2 a0_3 a0_4 bt104.1 bt104.2.1 bt104.2.2.1 a0_0 a0_1 0 0 false) else (stmt_form.j0 k bt104.2.2.2 a0_0 a0_1 a0_2 a0_3 a0_4 bt104.1 bt104.2.1 bt104.2.2.1 a0_0 0 0 0 false))
theorem stmt_form.mono_l : ∀ k, (∀ y0 y1 y2 y3 y4 y5 y6 y7 y8 y9 y10 y11 y12 y13, LeO (stmt_form.j0 k y0 y1 y2 y3 y4 y5 y6 y7 y8 y9 y10 y11 y12 y13) (stmt_form.j0 (k + 1) y0 y1 y2 y3 y4 y5 y6 y7 y8 y9 y10 y11 y12 y13))
 | 0 => fun _ _ _ _ _ _ _ _ _ _ _ _ _ _ r h => by simp [stmt_form.j0] at h
 | k + 1 => by
  have ih0 := stmt_form.mono_l k
  ·intro y0 y1 y2 y3 y4 y5 y6 y7 y8 y9 y10 y11 y12 y13
   unfold stmt_form.j0
   repeat' first
   | (with_reducible exact ih0 _ _ _ _ _ _ _ _ _ _ _ _ _ _)
   | (with_reducible exact stmt_of.mono _ _)
   | (with_reducible exact LeO.refl _)
   | (with_reducible exact LeO.none _)
   | (with_reducible refine LeO.ite ?_ ?_)
   | (with_reducible refine LeO.bind ?_ (fun _ => ?_))
   | exact ih0 _ _ _ _ _ _ _ _ _ _ _ _ _ _
   | exact stmt_of.mono _ _
   | exact LeO.none _
   | refine LeO.ite ?_ ?_
   | refine LeO.bind ?_ (fun _ => ?_)
theorem stmt_form.mono : ∀ a0 a1 a2 a3 a4 k, LeO (stmt_form.f k a0 a1 a2 a3 a4) (stmt_form.f (k + 1) a0 a1 a2 a3 a4) := by
 intro a0 a1 a2 a3 a4 k
 have ih0 := stmt_form.mono_l k
 unfold stmt_form.f
 repeat' first
   | (with_reducible exact ih0 _ _ _ _ _ _ _ _ _ _ _ _ _ _)
   | (with_reducible exact stmt_of.mono _ _)
   | (with_reducible exact LeO.refl _)
   | (with_reducible exact LeO.none _)
   | (with_reducible refine LeO.ite ?_ ?_)
   | (with_reducible refine LeO.bind ?_ (fun _ => ?_))
   | exact ih0 _ _ _ _ _ _ _ _ _ _ _ _ _ _
   | exact stmt_of.mono _ _
   | exact LeO.none _
   | refine LeO.ite ?_ ?_
   | refine LeO.bind ?_ (fun _ => ?_)
def stmt_form.T8 : Bool × List (List Nat × List Nat) := (true, [([], []), ([0], [0]), ([], []), ([2], [2]), ([0, 1], []), ([4, 1, 0, 1], [1, 4]), ([0, 1, 2, 3, 4, 5], []), ([6, 3, 5, 0, 1, 2, 3, 4, 5], [3, 6])])
def stmt_form.B8 : List Nat := [0, 1, 0, 4, 3, 19, 63, 127]
theorem stmt_form.tab8 : rtab .any (opsOf Try.f64 8) = stmt_form.T8 := by kernel_rfl
theorem stmt_form.bits8 : waitsOk stmt_form.T8.2 stmt_form.B8 = true := by kernel_rfl
def stmt_form.T9 : Bool × List (List Nat × List Nat) := (true, [([], []), ([], []), ([1], [1]), ([2], [2]), ([2], [2]), ([3, 4, 2], [2, 3, 4]), ([2, 5], [2, 5]), ([0, 2, 0], [0]), ([6, 7, 0, 1, 2, 3, 4, 5, 6, 7], [6])])
def stmt_form.B9 : List Nat := [0, 0, 2, 6, 6, 30, 62, 7, 255]
theorem stmt_form.tab9 : rtab .any (opsOf Try.f64 9) = stmt_form.T9 := by kernel_rfl
theorem stmt_form.bits9 : waitsOk stmt_form.T9.2 stmt_form.B9 = true := by kernel_rfl
set_option maxHeartbeats 8000000 in
set_option maxRecDepth 100000 in
theorem stmt_form.calls (k : Nat) (a0_0 : Int) (a0_1 : Int) (a0_2 : Int) (a0_3 : Int) (a0_4 : Bool) (r1 : Bool) (r2 : Bool) (r3 : Bool) (r4 : Bool) (w : World) (h : stmt_form.f k a0_0 a0_1 a0_2 a0_3 a0_4 = some (r1, r2, r3, r4)) :
  Calls Try.prog 64 #[.agg #[.int .i64 a0_0, .int .i64 a0_1, .int .i64 a0_2, .int .i64 a0_3, .bool a0_4]] w fun e w' => e = .returned (.tuple #[.agg #[.bool r1, .bool r2, .bool r3], .bool r4]) ∧ Below w.heap.size w w' := by
 have hu23 := Try.underlying23
 have hu91 := Try.underlying91
 have HB := Aside0.mk (Below.refl w.heap.size w)
 have H : ((stmt_of.f k a0_0).bind fun bt104 => (if bt104.1 = true then (stmt_form.j0 k bt104.2.2.2 a0_0 a0_1 a0_2 a0_3 a0_4 bt104.1 bt104.2.1 bt104.2.2.1 a0_0 a0_1 0 0 false) else (stmt_form.j0 k bt104.2.2.2 a0_0 a0_1 a0_2 a0_3 a0_4 bt104.1 bt104.2.1 bt104.2.2.1 a0_0 0 0 0 false))) = some (r1, r2, r3, r4) := h
 clear h
 replace H := Option.bind_eq_some_iff.mp H
 obtain ⟨⟨t104, t105, t106, t107⟩, A20, H⟩ := H
 replace H : (if t104 = true then (stmt_form.j0 k t107 a0_0 a0_1 a0_2 a0_3 a0_4 t104 t105 t106 a0_0 a0_1 0 0 false) else (stmt_form.j0 k t107 a0_0 a0_1 a0_2 a0_3 a0_4 t104 t105 t106 a0_0 0 0 0 false)) = some (r1, r2, r3, r4) := H
 have A2 := Aside0.mk A20
 clear A20
 have HC3 := Aside0.mk H
 clear H
 go_enter Try.func64, Try.ntmps64
 go_upto_if 17 with (first | ((with_reducible refine bT (N := 1) rfl ?_); refine bS ?hg (N := 1) ?hd (cs := #[.int .i64 a0_0, .int .i64 a0_1, .int .i64 a0_2, .int .i64 a0_3, .bool a0_4]) (t := 23) ?hr ?_; (case hd => rfl); (case hg => rfl); (case hr => first | (go_simp; done) | (go_simp; rfl)); intro gb102 hg w4 hbox hb; have n0_ := Aside0.mk (bP (by repeat (first | (with_reducible first | exact HB.out | apply bE | apply bA | apply bD) | exact HB.out)) hb); have n1_ := Aside0.mk (hbox); have n2_ := Aside0.mk ((by rw [hg]; exact (bK (by repeat (first | (with_reducible first | exact HB.out | apply bE | apply bA | apply bD) | exact HB.out))) : w.heap.size ≤ gb102)); have n3_ := Aside0.mk ((by rw [hg]; exact (bK (by repeat (first | (with_reducible first | exact HB.out | apply bE | apply bA | apply bD) | exact HB.out))) : w.heap.size ≤ gb102)); clear HB; have HB := n0_; have BK102 := n1_; have GW102 := n2_; have GE102 := n3_; clear n0_ n1_ n2_ n3_; clear hb hbox hg) | ((with_reducible refine bT (N := 2) rfl ?_); refine bS ?hg (N := 2) ?hd (cs := #[.bool false, .bool false, .bool false]) (t := 91) ?hr ?_; (case hd => rfl); (case hg => rfl); (case hr => first | (go_simp; done) | (go_simp; rfl)); intro gb103 hg w5 hbox hb; have n0_ := Aside0.mk (bU (g := gb102) (o := .cells #[.int .i64 a0_0, .int .i64 a0_1, .int .i64 a0_2, .int .i64 a0_3, .bool a0_4] 23 (0, 0)) (by (with_reducible repeat (first | refine bG ?_ _ | refine bH ?_ | refine bF ?_ _)); exact BK102.out) hb); have n1_ := Aside0.mk (bP (by repeat (first | (with_reducible first | exact HB.out | apply bE | apply bA | apply bD | refine bJ ?_ GE102.out) | exact HB.out)) hb); have n2_ := Aside0.mk (hbox); have n3_ := Aside0.mk ((by rw [hg]; exact (bK (by repeat (first | (with_reducible first | exact HB.out | apply bE | apply bA | apply bD | refine bJ ?_ GE102.out) | exact HB.out))) : w.heap.size ≤ gb103)); have n4_ := Aside0.mk ((by rw [hg]; exact (bK (by repeat (first | (with_reducible first | exact HB.out | apply bE | apply bA | apply bD | refine bJ ?_ GE102.out) | exact HB.out))) : w.heap.size ≤ gb103)); have n5_ := Aside0.mk ((by rw [hg]; exact Nat.ne_of_lt (blk_lt (g := gb102) (o := .cells #[.int .i64 a0_0, .int .i64 a0_1, .int .i64 a0_2, .int .i64 a0_3, .bool a0_4] 23 (0, 0)) (by (with_reducible repeat (first | refine bG ?_ _ | refine bH ?_ | refine bF ?_ _)); exact BK102.out)) : gb102 ≠ gb103)); have n6_ := Aside0.mk ((by rw [hg]; exact Nat.ne_of_gt (blk_lt (g := gb102) (o := .cells #[.int .i64 a0_0, .int .i64 a0_1, .int .i64 a0_2, .int .i64 a0_3, .bool a0_4] 23 (0, 0)) (by (with_reducible repeat (first | refine bG ?_ _ | refine bH ?_ | refine bF ?_ _)); exact BK102.out)) : gb103 ≠ gb102)); clear BK102; clear HB; have BK102 := n0_; have HB := n1_; have BK103 := n2_; have GW103 := n3_; have GE103 := n4_; have NB102_103 := n5_; have NB103_102 := n6_; clear n0_ n1_ n2_ n3_ n4_ n5_ n6_; clear hb hbox hg; have hnb6 := NB102_103.out; have hnc6 := NB103_102.out; have hcz7_0 : w5.cell? ⟨gb102, 0, none⟩ = some (.int .i64 a0_0) := (bC BK102.out 0).trans rfl; have hcz7_1 : w5.cell? ⟨gb102, 1, none⟩ = some (.int .i64 a0_1) := (bC BK102.out 1).trans rfl; have hcz7_2 : w5.cell? ⟨gb102, 2, none⟩ = some (.int .i64 a0_2) := (bC BK102.out 2).trans rfl; have hcz7_3 : w5.cell? ⟨gb102, 3, none⟩ = some (.int .i64 a0_3) := (bC BK102.out 3).trans rfl; have hcz7_4 : w5.cell? ⟨gb102, 4, none⟩ = some (.bool a0_4) := (bC BK102.out 4).trans rfl; have hfz7_0 := bB BK102.out 0; have hfz7_1 := bB BK102.out 1; have hfz7_2 := bB BK102.out 2; have hfz7_3 := bB BK102.out 3; have hfz7_4 := bB BK102.out 4) | ((with_reducible refine bV (f := 59) rfl ?_); refine goesL_ (some 10) rfl rfl Try.func59 (by kernel_rfl) rfl #[.int .i64 a0_0] rfl (by (try simp only [List.map_toArray, List.map_cons, List.map_nil]); first | done | rfl | (simp only [List.length_drop, List.length_take]; rfl)) ?_; (with_reducible refine (stmt_of.calls k a0_0 t104 t105 t106 t107 _ A2.out).mono ?_); rintro e w8 ⟨rfl, hb⟩; refine ⟨_, rfl, ?_⟩; have n0_ := Aside0.mk (bU (g := gb102) (o := .cells #[.int .i64 a0_0, .int .i64 a0_1, .int .i64 a0_2, .int .i64 a0_3, .bool a0_4] 23 (0, 0)) (by (with_reducible repeat (first | refine bG ?_ _ | refine bH ?_ | refine bF ?_ _)); exact BK102.out) hb); have n1_ := Aside0.mk (bU (g := gb103) (o := .cells #[.bool false, .bool false, .bool false] 91 (0, 0)) (by (with_reducible repeat (first | refine bG ?_ _ | refine bH ?_ | refine bF ?_ _)); exact BK103.out) hb); have n2_ := Aside0.mk (bP (by repeat (first | (with_reducible first | exact HB.out | apply bE | apply bA | apply bD | refine bJ ?_ GE102.out | refine bJ ?_ GE103.out) | exact HB.out)) hb); clear BK102; clear BK103; clear HB; have BK102 := n0_; have BK103 := n1_; have HB := n2_; clear n0_ n1_ n2_; (try clear hb); (try clear hb2); (try clear hk); (try clear hi)) | ((with_reducible refine bT (N := 4) rfl ?_); refine bS ?hg (N := 4) ?hd (cs := #[.bool false, .bool false, .bool false]) (t := 91) ?hr ?_; (case hd => rfl); (case hg => rfl); (case hr => first | (go_simp; done) | (go_simp; rfl)); intro gb108 hg w9 hbox hb; have n0_ := Aside0.mk (bU (g := gb102) (o := .cells #[.int .i64 a0_0, .int .i64 a0_1, .int .i64 a0_2, .int .i64 a0_3, .bool a0_4] 23 (0, 0)) (by (with_reducible repeat (first | refine bG ?_ _ | refine bH ?_ | refine bF ?_ _)); exact BK102.out) hb); have n1_ := Aside0.mk (bU (g := gb103) (o := .cells #[.bool false, .bool false, .bool false] 91 (0, 0)) (by (with_reducible repeat (first | refine bG ?_ _ | refine bH ?_ | refine bF ?_ _)); exact BK103.out) hb); have n2_ := Aside0.mk (bP (by repeat (first | (with_reducible first | exact HB.out | apply bE | apply bA | apply bD | refine bJ ?_ GE102.out | refine bJ ?_ GE103.out) | exact HB.out)) hb); have n3_ := Aside0.mk (hbox); have n4_ := Aside0.mk ((by rw [hg]; exact (bK (by repeat (first | (with_reducible first | exact HB.out | apply bE | apply bA | apply bD | refine bJ ?_ GE102.out | refine bJ ?_ GE103.out) | exact HB.out))) : w.heap.size ≤ gb108)); have n5_ := Aside0.mk ((by rw [hg]; exact (bK (by repeat (first | (with_reducible first | exact HB.out | apply bE | apply bA | apply bD | refine bJ ?_ GE102.out | refine bJ ?_ GE103.out) | exact HB.out))) : w.heap.size ≤ gb108)); have n6_ := Aside0.mk ((by rw [hg]; exact Nat.ne_of_lt (blk_lt (g := gb102) (o := .cells #[.int .i64 a0_0, .int .i64 a0_1, .int .i64 a0_2, .int .i64 a0_3, .bool a0_4] 23 (0, 0)) (by (with_reducible repeat (first | refine bG ?_ _ | refine bH ?_ | refine bF ?_ _)); exact BK102.out)) : gb102 ≠ gb108)); have n7_ := Aside0.mk ((by rw [hg]; exact Nat.ne_of_gt (blk_lt (g := gb102) (o := .cells #[.int .i64 a0_0, .int .i64 a0_1, .int .i64 a0_2, .int .i64 a0_3, .bool a0_4] 23 (0, 0)) (by (with_reducible repeat (first | refine bG ?_ _ | refine bH ?_ | refine bF ?_ _)); exact BK102.out)) : gb108 ≠ gb102)); have n8_ := Aside0.mk ((by rw [hg]; exact Nat.ne_of_lt (blk_lt (g := gb103) (o := .cells #[.bool false, .bool false, .bool false] 91 (0, 0)) (by (with_reducible repeat (first | refine bG ?_ _ | refine bH ?_ | refine bF ?_ _)); exact BK103.out)) : gb103 ≠ gb108)); have n9_ := Aside0.mk ((by rw [hg]; exact Nat.ne_of_gt (blk_lt (g := gb103) (o := .cells #[.bool false, .bool false, .bool false] 91 (0, 0)) (by (with_reducible repeat (first | refine bG ?_ _ | refine bH ?_ | refine bF ?_ _)); exact BK103.out)) : gb108 ≠ gb103)); clear BK102; clear BK103; clear HB; have BK102 := n0_; have BK103 := n1_; have HB := n2_; have BK108 := n3_; have GW108 := n4_; have GE108 := n5_; have NB102_108 := n6_; have NB108_102 := n7_; have NB103_108 := n8_; have NB108_103 := n9_; clear n0_ n1_ n2_ n3_ n4_ n5_ n6_ n7_ n8_ n9_; clear hb hbox hg; have hnb10 := NB108_102.out; have hnc10 := NB102_108.out; have hnb11 := NB108_103.out; have hnc11 := NB103_108.out; have hcz12_0 : w9.cell? ⟨gb108, 0, none⟩ = some (.bool false) := (bC BK108.out 0).trans rfl; have hcz12_1 : w9.cell? ⟨gb108, 1, none⟩ = some (.bool false) := (bC BK108.out 1).trans rfl; have hcz12_2 : w9.cell? ⟨gb108, 2, none⟩ = some (.bool false) := (bC BK108.out 2).trans rfl; have hfz12_0 := bB BK108.out 0; have hfz12_1 := bB BK108.out 1; have hfz12_2 := bB BK108.out 2; have hcz13_0 : w9.cell? ⟨gb102, 0, none⟩ = some (.int .i64 a0_0) := (bC BK102.out 0).trans rfl; have hcz13_1 : w9.cell? ⟨gb102, 1, none⟩ = some (.int .i64 a0_1) := (bC BK102.out 1).trans rfl; have hcz13_2 : w9.cell? ⟨gb102, 2, none⟩ = some (.int .i64 a0_2) := (bC BK102.out 2).trans rfl; have hcz13_3 : w9.cell? ⟨gb102, 3, none⟩ = some (.int .i64 a0_3) := (bC BK102.out 3).trans rfl; have hcz13_4 : w9.cell? ⟨gb102, 4, none⟩ = some (.bool a0_4) := (bC BK102.out 4).trans rfl; have hfz13_0 := bB BK102.out 0; have hfz13_1 := bB BK102.out 1; have hfz13_2 := bB BK102.out 2; have hfz13_3 := bB BK102.out 3; have hfz13_4 := bB BK102.out 4) | ((with_reducible refine bT (N := 6) rfl ?_); refine bS ?hg (N := 6) ?hd (cs := #[.int .i64 0, .int .i64 0, .int .i64 0, .int .i64 0, .bool false]) (t := 23) ?hr ?_; (case hd => rfl); (case hg => rfl); (case hr => first | (go_simp; done) | (go_simp; rfl)); intro gb109 hg w14 hbox hb; have n0_ := Aside0.mk (bU (g := gb102) (o := .cells #[.int .i64 a0_0, .int .i64 a0_1, .int .i64 a0_2, .int .i64 a0_3, .bool a0_4] 23 (0, 0)) (by (with_reducible repeat (first | refine bG ?_ _ | refine bH ?_ | refine bF ?_ _)); refine bW ?_ NB102_108.out _; (with_reducible repeat (first | refine bG ?_ _ | refine bH ?_ | refine bF ?_ _)); refine bW ?_ NB102_108.out _; (with_reducible repeat (first | refine bG ?_ _ | refine bH ?_ | refine bF ?_ _)); refine bW ?_ NB102_108.out _; (with_reducible repeat (first | refine bG ?_ _ | refine bH ?_ | refine bF ?_ _)); exact BK102.out) hb); have n1_ := Aside0.mk (bU (g := gb103) (o := .cells #[.bool false, .bool false, .bool false] 91 (0, 0)) (by (with_reducible repeat (first | refine bG ?_ _ | refine bH ?_ | refine bF ?_ _)); refine bW ?_ NB103_108.out _; (with_reducible repeat (first | refine bG ?_ _ | refine bH ?_ | refine bF ?_ _)); refine bW ?_ NB103_108.out _; (with_reducible repeat (first | refine bG ?_ _ | refine bH ?_ | refine bF ?_ _)); refine bW ?_ NB103_108.out _; (with_reducible repeat (first | refine bG ?_ _ | refine bH ?_ | refine bF ?_ _)); exact BK103.out) hb); have n2_ := Aside0.mk (bU (g := gb108) (o := .cells #[.bool t104, .bool t105, .bool t106] 91 (0, 0)) (by (with_reducible repeat (first | refine bG ?_ _ | refine bH ?_ | refine bF ?_ _)); refine bY (cs := #[.bool t104, .bool t105, .bool false]) ?_ 2 _ rfl; (with_reducible repeat (first | refine bG ?_ _ | refine bH ?_ | refine bF ?_ _)); refine bY (cs := #[.bool t104, .bool false, .bool false]) ?_ 1 _ rfl; (with_reducible repeat (first | refine bG ?_ _ | refine bH ?_ | refine bF ?_ _)); refine bY (cs := #[.bool false, .bool false, .bool false]) ?_ 0 _ rfl; (with_reducible repeat (first | refine bG ?_ _ | refine bH ?_ | refine bF ?_ _)); exact BK108.out) hb); have n3_ := Aside0.mk (bP (by repeat (first | (with_reducible first | exact HB.out | apply bE | apply bA | apply bD | refine bJ ?_ GE102.out | refine bJ ?_ GE103.out | refine bJ ?_ GE108.out) | exact HB.out)) hb); have n4_ := Aside0.mk (hbox); have n5_ := Aside0.mk ((by rw [hg]; exact (bK (by repeat (first | (with_reducible first | exact HB.out | apply bE | apply bA | apply bD | refine bJ ?_ GE102.out | refine bJ ?_ GE103.out | refine bJ ?_ GE108.out) | exact HB.out))) : w.heap.size ≤ gb109)); have n6_ := Aside0.mk ((by rw [hg]; exact (bK (by repeat (first | (with_reducible first | exact HB.out | apply bE | apply bA | apply bD | refine bJ ?_ GE102.out | refine bJ ?_ GE103.out | refine bJ ?_ GE108.out) | exact HB.out))) : w.heap.size ≤ gb109)); have n7_ := Aside0.mk ((by rw [hg]; exact Nat.ne_of_lt (blk_lt (g := gb102) (o := .cells #[.int .i64 a0_0, .int .i64 a0_1, .int .i64 a0_2, .int .i64 a0_3, .bool a0_4] 23 (0, 0)) (by (with_reducible repeat (first | refine bG ?_ _ | refine bH ?_ | refine bF ?_ _)); refine bW ?_ NB102_108.out _; (with_reducible repeat (first | refine bG ?_ _ | refine bH ?_ | refine bF ?_ _)); refine bW ?_ NB102_108.out _; (with_reducible repeat (first | refine bG ?_ _ | refine bH ?_ | refine bF ?_ _)); refine bW ?_ NB102_108.out _; (with_reducible repeat (first | refine bG ?_ _ | refine bH ?_ | refine bF ?_ _)); exact BK102.out)) : gb102 ≠ gb109)); have n8_ := Aside0.mk ((by rw [hg]; exact Nat.ne_of_gt (blk_lt (g := gb102) (o := .cells #[.int .i64 a0_0, .int .i64 a0_1, .int .i64 a0_2, .int .i64 a0_3, .bool a0_4] 23 (0, 0)) (by (with_reducible repeat (first | refine bG ?_ _ | refine bH ?_ | refine bF ?_ _)); refine bW ?_ NB102_108.out _; (with_reducible repeat (first | refine bG ?_ _ | refine bH ?_ | refine bF ?_ _)); refine bW ?_ NB102_108.out _; (with_reducible repeat (first | refine bG ?_ _ | refine bH ?_ | refine bF ?_ _)); refine bW ?_ NB102_108.out _; (with_reducible repeat (first | refine bG ?_ _ | refine bH ?_ | refine bF ?_ _)); exact BK102.out)) : gb109 ≠ gb102)); have n9_ := Aside0.mk ((by rw [hg]; exact Nat.ne_of_lt (blk_lt (g := gb103) (o := .cells #[.bool false, .bool false, .bool false] 91 (0, 0)) (by (with_reducible repeat (first | refine bG ?_ _ | refine bH ?_ | refine bF ?_ _)); refine bW ?_ NB103_108.out _; (with_reducible repeat (first | refine bG ?_ _ | refine bH ?_ | refine bF ?_ _)); refine bW ?_ NB103_108.out _; (with_reducible repeat (first | refine bG ?_ _ | refine bH ?_ | refine bF ?_ _)); refine bW ?_ NB103_108.out _; (with_reducible repeat (first | refine bG ?_ _ | refine bH ?_ | refine bF ?_ _)); exact BK103.out)) : gb103 ≠ gb109)); have n10_ := Aside0.mk ((by rw [hg]; exact Nat.ne_of_gt (blk_lt (g := gb103) (o := .cells #[.bool false, .bool false, .bool false] 91 (0, 0)) (by (with_reducible repeat (first | refine bG ?_ _ | refine bH ?_ | refine bF ?_ _)); refine bW ?_ NB103_108.out _; (with_reducible repeat (first | refine bG ?_ _ | refine bH ?_ | refine bF ?_ _)); refine bW ?_ NB103_108.out _; (with_reducible repeat (first | refine bG ?_ _ | refine bH ?_ | refine bF ?_ _)); refine bW ?_ NB103_108.out _; (with_reducible repeat (first | refine bG ?_ _ | refine bH ?_ | refine bF ?_ _)); exact BK103.out)) : gb109 ≠ gb103)); have n11_ := Aside0.mk ((by rw [hg]; exact Nat.ne_of_lt (blk_lt (g := gb108) (o := .cells #[.bool t104, .bool t105, .bool t106] 91 (0, 0)) (by (with_reducible repeat (first | refine bG ?_ _ | refine bH ?_ | refine bF ?_ _)); refine bY (cs := #[.bool t104, .bool t105, .bool false]) ?_ 2 _ rfl; (with_reducible repeat (first | refine bG ?_ _ | refine bH ?_ | refine bF ?_ _)); refine bY (cs := #[.bool t104, .bool false, .bool false]) ?_ 1 _ rfl; (with_reducible repeat (first | refine bG ?_ _ | refine bH ?_ | refine bF ?_ _)); refine bY (cs := #[.bool false, .bool false, .bool false]) ?_ 0 _ rfl; (with_reducible repeat (first | refine bG ?_ _ | refine bH ?_ | refine bF ?_ _)); exact BK108.out)) : gb108 ≠ gb109)); have n12_ := Aside0.mk ((by rw [hg]; exact Nat.ne_of_gt (blk_lt (g := gb108) (o := .cells #[.bool t104, .bool t105, .bool t106] 91 (0, 0)) (by (with_reducible repeat (first | refine bG ?_ _ | refine bH ?_ | refine bF ?_ _)); refine bY (cs := #[.bool t104, .bool t105, .bool false]) ?_ 2 _ rfl; (with_reducible repeat (first | refine bG ?_ _ | refine bH ?_ | refine bF ?_ _)); refine bY (cs := #[.bool t104, .bool false, .bool false]) ?_ 1 _ rfl; (with_reducible repeat (first | refine bG ?_ _ | refine bH ?_ | refine bF ?_ _)); refine bY (cs := #[.bool false, .bool false, .bool false]) ?_ 0 _ rfl; (with_reducible repeat (first | refine bG ?_ _ | refine bH ?_ | refine bF ?_ _)); exact BK108.out)) : gb109 ≠ gb108)); clear BK102; clear BK103; clear BK108; clear HB; have BK102 := n0_; have BK103 := n1_; have BK108 := n2_; have HB := n3_; have BK109 := n4_; have GW109 := n5_; have GE109 := n6_; have NB102_109 := n7_; have NB109_102 := n8_; have NB103_109 := n9_; have NB109_103 := n10_; have NB108_109 := n11_; have NB109_108 := n12_; clear n0_ n1_ n2_ n3_ n4_ n5_ n6_ n7_ n8_ n9_ n10_ n11_ n12_; clear hb hbox hg; have hnb15 := NB109_102.out; have hnc15 := NB102_109.out; have hnb16 := NB109_103.out; have hnc16 := NB103_109.out; have hnb17 := NB109_108.out; have hnc17 := NB108_109.out; have hcz18_0 : w14.cell? ⟨gb109, 0, none⟩ = some (.int .i64 0) := (bC BK109.out 0).trans rfl; have hcz18_1 : w14.cell? ⟨gb109, 1, none⟩ = some (.int .i64 0) := (bC BK109.out 1).trans rfl; have hcz18_2 : w14.cell? ⟨gb109, 2, none⟩ = some (.int .i64 0) := (bC BK109.out 2).trans rfl; have hcz18_3 : w14.cell? ⟨gb109, 3, none⟩ = some (.int .i64 0) := (bC BK109.out 3).trans rfl; have hcz18_4 : w14.cell? ⟨gb109, 4, none⟩ = some (.bool false) := (bC BK109.out 4).trans rfl; have hfz18_0 := bB BK109.out 0; have hfz18_1 := bB BK109.out 1; have hfz18_2 := bB BK109.out 2; have hfz18_3 := bB BK109.out 3; have hfz18_4 := bB BK109.out 4; have hcz19_0 : w14.cell? ⟨gb108, 0, none⟩ = some (.bool t104) := (bC BK108.out 0).trans rfl; have hcz19_1 : w14.cell? ⟨gb108, 1, none⟩ = some (.bool t105) := (bC BK108.out 1).trans rfl; have hcz19_2 : w14.cell? ⟨gb108, 2, none⟩ = some (.bool t106) := (bC BK108.out 2).trans rfl; have hfz19_0 := bB BK108.out 0; have hfz19_1 := bB BK108.out 1; have hfz19_2 := bB BK108.out 2))
 (try simp only [Act.put, sZ1, sZ2, sZ3])
 go_cut [] (fun wc => ∃ (kq : Nat) (x110001_2 : Int), Aside0 (stmt_form.j0 kq t107 a0_0 a0_1 a0_2 a0_3 a0_4 t104 t105 t106 a0_0 x110001_2 0 0 false = some (r1, r2, r3, r4)) ∧ Aside0 (kq ≤ k) ∧ Aside0 (wc.heap[gb102]? = some (.cells #[.int .i64 a0_0, .int .i64 a0_1, .int .i64 a0_2, .int .i64 a0_3, .bool a0_4] 23 (0, 0))) ∧ Aside0 (wc.heap[gb103]? = some (.cells #[.bool false, .bool false, .bool false] 91 (0, 0))) ∧ Aside0 (wc.heap[gb108]? = some (.cells #[.bool t104, .bool t105, .bool t106] 91 (0, 0))) ∧ Aside0 (wc.heap[gb109]? = some (.cells #[.int .i64 a0_0, .int .i64 x110001_2, .int .i64 0, .int .i64 0, .bool false] 23 (0, 0))) ∧ Aside0 (Below w.heap.size w wc))
 case first =>
  have H := HC3.out
  clear HC3
  by_cases c20 : t104 = true
  ·subst c20
   have H1 : (stmt_form.j0 k t107 a0_0 a0_1 a0_2 a0_3 a0_4 true t105 t106 a0_0 a0_1 0 0 false) = some (r1, r2, r3, r4) := by rw [if_pos rfl] at H; exact H
   clear H
   have H := H1
   clear H1
   have H' := Aside0.mk H
   clear H
   have hnb21 := NB102_103.out
   have hnc21 := NB103_102.out
   have hnb22 := NB102_108.out
   have hnc22 := NB108_102.out
   have hnb23 := NB102_109.out
   have hnc23 := NB109_102.out
   have hcz24_0 : w14.cell? ⟨gb102, 0, none⟩ = some (.int .i64 a0_0) := (bC BK102.out 0).trans rfl
   have hcz24_1 : w14.cell? ⟨gb102, 1, none⟩ = some (.int .i64 a0_1) := (bC BK102.out 1).trans rfl
   have hcz24_2 : w14.cell? ⟨gb102, 2, none⟩ = some (.int .i64 a0_2) := (bC BK102.out 2).trans rfl
   have hcz24_3 : w14.cell? ⟨gb102, 3, none⟩ = some (.int .i64 a0_3) := (bC BK102.out 3).trans rfl
   have hcz24_4 : w14.cell? ⟨gb102, 4, none⟩ = some (.bool a0_4) := (bC BK102.out 4).trans rfl
   have hfz24_0 := bB BK102.out 0
   have hfz24_1 := bB BK102.out 1
   have hfz24_2 := bB BK102.out 2
   have hfz24_3 := bB BK102.out 3
   have hfz24_4 := bB BK102.out 4
   have hnb25 := NB109_103.out
   have hnc25 := NB103_109.out
   have hnb26 := NB109_108.out
   have hnc26 := NB108_109.out
   have hcz27_0 : w14.cell? ⟨gb109, 0, none⟩ = some (.int .i64 0) := (bC BK109.out 0).trans rfl
   have hcz27_1 : w14.cell? ⟨gb109, 1, none⟩ = some (.int .i64 0) := (bC BK109.out 1).trans rfl
   have hcz27_2 : w14.cell? ⟨gb109, 2, none⟩ = some (.int .i64 0) := (bC BK109.out 2).trans rfl
   have hcz27_3 : w14.cell? ⟨gb109, 3, none⟩ = some (.int .i64 0) := (bC BK109.out 3).trans rfl
   have hcz27_4 : w14.cell? ⟨gb109, 4, none⟩ = some (.bool false) := (bC BK109.out 4).trans rfl
   have hfz27_0 := bB BK109.out 0
   have hfz27_1 := bB BK109.out 1
   have hfz27_2 := bB BK109.out 2
   have hfz27_3 := bB BK109.out 3
   have hfz27_4 := bB BK109.out 4
   go_wp2
   go_meet
   case rel => exact ⟨_, (a0_1), H', ⟨by first | omega | exact Nat.le_refl _⟩, ⟨by (with_reducible repeat (first | refine bG ?_ _ | refine bH ?_ | refine bF ?_ _)); refine bW ?_ NB102_109.out _; (with_reducible repeat (first | refine bG ?_ _ | refine bH ?_ | refine bF ?_ _)); refine bW ?_ NB102_109.out _; (with_reducible repeat (first | refine bG ?_ _ | refine bH ?_ | refine bF ?_ _)); refine bW ?_ NB102_109.out _; (with_reducible repeat (first | refine bG ?_ _ | refine bH ?_ | refine bF ?_ _)); refine bW ?_ NB102_109.out _; (with_reducible repeat (first | refine bG ?_ _ | refine bH ?_ | refine bF ?_ _)); refine bW ?_ NB102_109.out _; (with_reducible repeat (first | refine bG ?_ _ | refine bH ?_ | refine bF ?_ _)); refine bW ?_ NB102_109.out _; (with_reducible repeat (first | refine bG ?_ _ | refine bH ?_ | refine bF ?_ _)); exact BK102.out⟩, ⟨by (with_reducible repeat (first | refine bG ?_ _ | refine bH ?_ | refine bF ?_ _)); refine bW ?_ NB103_109.out _; (with_reducible repeat (first | refine bG ?_ _ | refine bH ?_ | refine bF ?_ _)); refine bW ?_ NB103_109.out _; (with_reducible repeat (first | refine bG ?_ _ | refine bH ?_ | refine bF ?_ _)); refine bW ?_ NB103_109.out _; (with_reducible repeat (first | refine bG ?_ _ | refine bH ?_ | refine bF ?_ _)); refine bW ?_ NB103_109.out _; (with_reducible repeat (first | refine bG ?_ _ | refine bH ?_ | refine bF ?_ _)); refine bW ?_ NB103_109.out _; (with_reducible repeat (first | refine bG ?_ _ | refine bH ?_ | refine bF ?_ _)); refine bW ?_ NB103_109.out _; (with_reducible repeat (first | refine bG ?_ _ | refine bH ?_ | refine bF ?_ _)); exact BK103.out⟩, ⟨by (with_reducible repeat (first | refine bG ?_ _ | refine bH ?_ | refine bF ?_ _)); refine bW ?_ NB108_109.out _; (with_reducible repeat (first | refine bG ?_ _ | refine bH ?_ | refine bF ?_ _)); refine bW ?_ NB108_109.out _; (with_reducible repeat (first | refine bG ?_ _ | refine bH ?_ | refine bF ?_ _)); refine bW ?_ NB108_109.out _; (with_reducible repeat (first | refine bG ?_ _ | refine bH ?_ | refine bF ?_ _)); refine bW ?_ NB108_109.out _; (with_reducible repeat (first | refine bG ?_ _ | refine bH ?_ | refine bF ?_ _)); refine bW ?_ NB108_109.out _; (with_reducible repeat (first | refine bG ?_ _ | refine bH ?_ | refine bF ?_ _)); refine bW ?_ NB108_109.out _; (with_reducible repeat (first | refine bG ?_ _ | refine bH ?_ | refine bF ?_ _)); exact BK108.out⟩, ⟨by (with_reducible repeat (first | refine bG ?_ _ | refine bH ?_ | refine bF ?_ _)); refine bY (cs := #[.int .i64 a0_0, .int .i64 0, .int .i64 0, .int .i64 0, .bool false]) ?_ 1 _ rfl; (with_reducible repeat (first | refine bG ?_ _ | refine bH ?_ | refine bF ?_ _)); refine bY (cs := #[.int .i64 a0_0, .int .i64 0, .int .i64 0, .int .i64 0, .bool false]) ?_ 4 _ rfl; (with_reducible repeat (first | refine bG ?_ _ | refine bH ?_ | refine bF ?_ _)); refine bY (cs := #[.int .i64 a0_0, .int .i64 0, .int .i64 0, .int .i64 0, .bool false]) ?_ 3 _ rfl; (with_reducible repeat (first | refine bG ?_ _ | refine bH ?_ | refine bF ?_ _)); refine bY (cs := #[.int .i64 a0_0, .int .i64 0, .int .i64 0, .int .i64 0, .bool false]) ?_ 2 _ rfl; (with_reducible repeat (first | refine bG ?_ _ | refine bH ?_ | refine bF ?_ _)); refine bY (cs := #[.int .i64 a0_0, .int .i64 0, .int .i64 0, .int .i64 0, .bool false]) ?_ 1 _ rfl; (with_reducible repeat (first | refine bG ?_ _ | refine bH ?_ | refine bF ?_ _)); refine bY (cs := #[.int .i64 0, .int .i64 0, .int .i64 0, .int .i64 0, .bool false]) ?_ 0 _ rfl; (with_reducible repeat (first | refine bG ?_ _ | refine bH ?_ | refine bF ?_ _)); exact BK109.out⟩, ⟨by repeat (first | (with_reducible first | exact HB.out | apply bE | apply bA | apply bD | refine bJ ?_ GE102.out | refine bJ ?_ GE103.out | refine bJ ?_ GE108.out | refine bJ ?_ GE109.out) | exact HB.out)⟩⟩
  ·replace c20 := Bool.eq_false_iff.mpr c20
   subst c20
   have H1 : (stmt_form.j0 k t107 a0_0 a0_1 a0_2 a0_3 a0_4 false t105 t106 a0_0 0 0 0 false) = some (r1, r2, r3, r4) := by rw [if_neg (show ¬ (false = true) by decide)] at H; exact H
   clear H
   have H := H1
   clear H1
   have H' := Aside0.mk H
   clear H
   go_wp2
   go_meet
   case rel => exact ⟨_, (0), H', ⟨by first | omega | exact Nat.le_refl _⟩, ⟨by (with_reducible repeat (first | refine bG ?_ _ | refine bH ?_ | refine bF ?_ _)); refine bW ?_ NB102_109.out _; (with_reducible repeat (first | refine bG ?_ _ | refine bH ?_ | refine bF ?_ _)); refine bW ?_ NB102_109.out _; (with_reducible repeat (first | refine bG ?_ _ | refine bH ?_ | refine bF ?_ _)); refine bW ?_ NB102_109.out _; (with_reducible repeat (first | refine bG ?_ _ | refine bH ?_ | refine bF ?_ _)); refine bW ?_ NB102_109.out _; (with_reducible repeat (first | refine bG ?_ _ | refine bH ?_ | refine bF ?_ _)); refine bW ?_ NB102_109.out _; (with_reducible repeat (first | refine bG ?_ _ | refine bH ?_ | refine bF ?_ _)); exact BK102.out⟩, ⟨by (with_reducible repeat (first | refine bG ?_ _ | refine bH ?_ | refine bF ?_ _)); refine bW ?_ NB103_109.out _; (with_reducible repeat (first | refine bG ?_ _ | refine bH ?_ | refine bF ?_ _)); refine bW ?_ NB103_109.out _; (with_reducible repeat (first | refine bG ?_ _ | refine bH ?_ | refine bF ?_ _)); refine bW ?_ NB103_109.out _; (with_reducible repeat (first | refine bG ?_ _ | refine bH ?_ | refine bF ?_ _)); refine bW ?_ NB103_109.out _; (with_reducible repeat (first | refine bG ?_ _ | refine bH ?_ | refine bF ?_ _)); refine bW ?_ NB103_109.out _; (with_reducible repeat (first | refine bG ?_ _ | refine bH ?_ | refine bF ?_ _)); exact BK103.out⟩, ⟨by (with_reducible repeat (first | refine bG ?_ _ | refine bH ?_ | refine bF ?_ _)); refine bW ?_ NB108_109.out _; (with_reducible repeat (first | refine bG ?_ _ | refine bH ?_ | refine bF ?_ _)); refine bW ?_ NB108_109.out _; (with_reducible repeat (first | refine bG ?_ _ | refine bH ?_ | refine bF ?_ _)); refine bW ?_ NB108_109.out _; (with_reducible repeat (first | refine bG ?_ _ | refine bH ?_ | refine bF ?_ _)); refine bW ?_ NB108_109.out _; (with_reducible repeat (first | refine bG ?_ _ | refine bH ?_ | refine bF ?_ _)); refine bW ?_ NB108_109.out _; (with_reducible repeat (first | refine bG ?_ _ | refine bH ?_ | refine bF ?_ _)); exact BK108.out⟩, ⟨by (with_reducible repeat (first | refine bG ?_ _ | refine bH ?_ | refine bF ?_ _)); refine bY (cs := #[.int .i64 a0_0, .int .i64 0, .int .i64 0, .int .i64 0, .bool false]) ?_ 4 _ rfl; (with_reducible repeat (first | refine bG ?_ _ | refine bH ?_ | refine bF ?_ _)); refine bY (cs := #[.int .i64 a0_0, .int .i64 0, .int .i64 0, .int .i64 0, .bool false]) ?_ 3 _ rfl; (with_reducible repeat (first | refine bG ?_ _ | refine bH ?_ | refine bF ?_ _)); refine bY (cs := #[.int .i64 a0_0, .int .i64 0, .int .i64 0, .int .i64 0, .bool false]) ?_ 2 _ rfl; (with_reducible repeat (first | refine bG ?_ _ | refine bH ?_ | refine bF ?_ _)); refine bY (cs := #[.int .i64 a0_0, .int .i64 0, .int .i64 0, .int .i64 0, .bool false]) ?_ 1 _ rfl; (with_reducible repeat (first | refine bG ?_ _ | refine bH ?_ | refine bF ?_ _)); refine bY (cs := #[.int .i64 0, .int .i64 0, .int .i64 0, .int .i64 0, .bool false]) ?_ 0 _ rfl; (with_reducible repeat (first | refine bG ?_ _ | refine bH ?_ | refine bF ?_ _)); exact BK109.out⟩, ⟨by repeat (first | (with_reducible first | exact HB.out | apply bE | apply bA | apply bD | refine bJ ?_ GE102.out | refine bJ ?_ GE103.out | refine bJ ?_ GE108.out | refine bJ ?_ GE109.out) | exact HB.out)⟩⟩
 case rest =>
  clear HC3
  try clear c1
  try clear c2
  try clear p2
  try clear c5
  try clear c6
  try clear c10
  try clear c11
  try clear c15
  try clear c16
  try clear c17
  try clear c20
  try clear c21
  try clear c22
  try clear c23
  try clear c25
  try clear c26
  try clear hcz12_0
  try clear hcz12_1
  try clear hcz12_2
  try clear hcz13_0
  try clear hcz13_1
  try clear hcz13_2
  try clear hcz13_3
  try clear hcz13_4
  try clear hcz18_0
  try clear hcz18_1
  try clear hcz18_2
  try clear hcz18_3
  try clear hcz18_4
  try clear hcz19_0
  try clear hcz19_1
  try clear hcz19_2
  try clear hcz24_0
  try clear hcz24_1
  try clear hcz24_2
  try clear hcz24_3
  try clear hcz24_4
  try clear hcz27_0
  try clear hcz27_1
  try clear hcz27_2
  try clear hcz27_3
  try clear hcz27_4
  try clear hcz7_0
  try clear hcz7_1
  try clear hcz7_2
  try clear hcz7_3
  try clear hcz7_4
  try clear hfz12_0
  try clear hfz12_1
  try clear hfz12_2
  try clear hfz13_0
  try clear hfz13_1
  try clear hfz13_2
  try clear hfz13_3
  try clear hfz13_4
  try clear hfz18_0
  try clear hfz18_1
  try clear hfz18_2
  try clear hfz18_3
  try clear hfz18_4
  try clear hfz19_0
  try clear hfz19_1
  try clear hfz19_2
  try clear hfz24_0
  try clear hfz24_1
  try clear hfz24_2
  try clear hfz24_3
  try clear hfz24_4
  try clear hfz27_0
  try clear hfz27_1
  try clear hfz27_2
  try clear hfz27_3
  try clear hfz27_4
  try clear hfz7_0
  try clear hfz7_1
  try clear hfz7_2
  try clear hfz7_3
  try clear hfz7_4
  obtain ⟨kq, x110001_2, HA, HJ2, BK102, BK103, BK108, BK109, HB⟩ := hcut
  cases kq with
  | zero => exact absurd HA.out (by simp [stmt_form.j0])
  | succ kj2 =>
   have H := HA.out
   clear HA
   simp only [stmt_form.j0] at H
   by_cases c28 : t105 = true
   ·subst c28
    have H1 : (if t106 = true then (if t107 = true then (some (t104, true, t106, (a0_0 == a0_0 && (x110001_2 == a0_1)))) else (some (t104, true, t106, false))) else (if t107 = true then (some (t104, true, t106, (a0_0 == a0_0 && (x110001_2 == a0_1 && (0 == a0_3 && (false == a0_4)))))) else (some (t104, true, t106, false)))) = some (r1, r2, r3, r4) := by rw [if_pos rfl] at H; exact H
    clear H
    have H := H1
    clear H1
    by_cases c29 : t106 = true
    ·subst c29
     have H1 : (if t107 = true then (some (t104, true, true, (a0_0 == a0_0 && (x110001_2 == a0_1)))) else (some (t104, true, true, false))) = some (r1, r2, r3, r4) := by rw [if_pos rfl] at H; exact H
     clear H
     have H := H1
     clear H1
     by_cases c30 : t107 = true
     ·subst c30
      have H1 : (some (t104, true, true, (a0_0 == a0_0 && (x110001_2 == a0_1)))) = some (r1, r2, r3, r4) := by rw [if_pos rfl] at H; exact H
      clear H
      have H := H1
      clear H1
      simp only [Option.some.injEq, Prod.mk.injEq] at H
      obtain ⟨rfl, rfl, rfl, rfl⟩ := H
      have hnb31 := NB108_102.out
      have hnc31 := NB102_108.out
      have hnb32 := NB108_103.out
      have hnc32 := NB103_108.out
      have hnb33 := NB108_109.out
      have hnc33 := NB109_108.out
      have hcz34_0 : wc.cell? ⟨gb108, 0, none⟩ = some (.bool t104) := (bC BK108.out 0).trans rfl
      have hcz34_1 : wc.cell? ⟨gb108, 1, none⟩ = some (.bool true) := (bC BK108.out 1).trans rfl
      have hcz34_2 : wc.cell? ⟨gb108, 2, none⟩ = some (.bool true) := (bC BK108.out 2).trans rfl
      have hfz34_0 := bB BK108.out 0
      have hfz34_1 := bB BK108.out 1
      have hfz34_2 := bB BK108.out 2
      have hnb35 := NB102_103.out
      have hnc35 := NB103_102.out
      have hnb36 := NB102_109.out
      have hnc36 := NB109_102.out
      have hcz37_0 : wc.cell? ⟨gb102, 0, none⟩ = some (.int .i64 a0_0) := (bC BK102.out 0).trans rfl
      have hcz37_1 : wc.cell? ⟨gb102, 1, none⟩ = some (.int .i64 a0_1) := (bC BK102.out 1).trans rfl
      have hcz37_2 : wc.cell? ⟨gb102, 2, none⟩ = some (.int .i64 a0_2) := (bC BK102.out 2).trans rfl
      have hcz37_3 : wc.cell? ⟨gb102, 3, none⟩ = some (.int .i64 a0_3) := (bC BK102.out 3).trans rfl
      have hcz37_4 : wc.cell? ⟨gb102, 4, none⟩ = some (.bool a0_4) := (bC BK102.out 4).trans rfl
      have hfz37_0 := bB BK102.out 0
      have hfz37_1 := bB BK102.out 1
      have hfz37_2 := bB BK102.out 2
      have hfz37_3 := bB BK102.out 3
      have hfz37_4 := bB BK102.out 4
      have hnb38 := NB109_103.out
      have hnc38 := NB103_109.out
      have hcz39_0 : wc.cell? ⟨gb109, 0, none⟩ = some (.int .i64 a0_0) := (bC BK109.out 0).trans rfl
      have hcz39_1 : wc.cell? ⟨gb109, 1, none⟩ = some (.int .i64 x110001_2) := (bC BK109.out 1).trans rfl
      have hcz39_2 : wc.cell? ⟨gb109, 2, none⟩ = some (.int .i64 0) := (bC BK109.out 2).trans rfl
      have hcz39_3 : wc.cell? ⟨gb109, 3, none⟩ = some (.int .i64 0) := (bC BK109.out 3).trans rfl
      have hcz39_4 : wc.cell? ⟨gb109, 4, none⟩ = some (.bool false) := (bC BK109.out 4).trans rfl
      have hfz39_0 := bB BK109.out 0
      have hfz39_1 := bB BK109.out 1
      have hfz39_2 := bB BK109.out 2
      have hfz39_3 := bB BK109.out 3
      have hfz39_4 := bB BK109.out 4
      try go_wp2
      have n0_ : Aside0 ((wc.setCell ⟨gb109, 2, none⟩ (.int .i64 a0_2)).heap[gb102]? = some (.cells #[.int .i64 a0_0, .int .i64 a0_1, .int .i64 a0_2, .int .i64 a0_3, .bool a0_4] 23 (0, 0))) := ⟨by (with_reducible repeat (first | refine bG ?_ _ | refine bH ?_ | refine bF ?_ _)); refine bW ?_ NB102_109.out _; (with_reducible repeat (first | refine bG ?_ _ | refine bH ?_ | refine bF ?_ _)); exact BK102.out⟩
      have n1_ : Aside0 ((wc.setCell ⟨gb109, 2, none⟩ (.int .i64 a0_2)).heap[gb103]? = some (.cells #[.bool false, .bool false, .bool false] 91 (0, 0))) := ⟨by (with_reducible repeat (first | refine bG ?_ _ | refine bH ?_ | refine bF ?_ _)); refine bW ?_ NB103_109.out _; (with_reducible repeat (first | refine bG ?_ _ | refine bH ?_ | refine bF ?_ _)); exact BK103.out⟩
      have n2_ : Aside0 ((wc.setCell ⟨gb109, 2, none⟩ (.int .i64 a0_2)).heap[gb108]? = some (.cells #[.bool t104, .bool true, .bool true] 91 (0, 0))) := ⟨by (with_reducible repeat (first | refine bG ?_ _ | refine bH ?_ | refine bF ?_ _)); refine bW ?_ NB108_109.out _; (with_reducible repeat (first | refine bG ?_ _ | refine bH ?_ | refine bF ?_ _)); exact BK108.out⟩
      have n3_ : Aside0 ((wc.setCell ⟨gb109, 2, none⟩ (.int .i64 a0_2)).heap[gb109]? = some (.cells #[.int .i64 a0_0, .int .i64 x110001_2, .int .i64 a0_2, .int .i64 0, .bool false] 23 (0, 0))) := ⟨by (with_reducible repeat (first | refine bG ?_ _ | refine bH ?_ | refine bF ?_ _)); refine bY (cs := #[.int .i64 a0_0, .int .i64 x110001_2, .int .i64 0, .int .i64 0, .bool false]) ?_ 2 _ rfl; (with_reducible repeat (first | refine bG ?_ _ | refine bH ?_ | refine bF ?_ _)); exact BK109.out⟩
      have n4_ : Aside0 (Below w.heap.size w (wc.setCell ⟨gb109, 2, none⟩ (.int .i64 a0_2))) := ⟨by repeat (first | (with_reducible first | exact HB.out | apply bE | apply bA | apply bD | refine bJ ?_ GE102.out | refine bJ ?_ GE103.out | refine bJ ?_ GE108.out | refine bJ ?_ GE109.out) | exact HB.out)⟩
      (try clear BK102)
      (try clear BK103)
      (try clear BK108)
      (try clear BK109)
      (try clear HB)
      generalize (wc.setCell ⟨gb109, 2, none⟩ (.int .i64 a0_2)) = w40 at n0_ n1_ n2_ n3_ n4_ ⊢
      have BK102 := n0_
      have BK103 := n1_
      have BK108 := n2_
      have BK109 := n3_
      have HB := n4_
      clear n0_ n1_ n2_ n3_ n4_
      have n0_ := Aside0.mk (bH BK102.out)
      have n1_ := Aside0.mk (bH BK103.out)
      have n2_ := Aside0.mk (bH BK108.out)
      have n3_ := Aside0.mk (bH BK109.out)
      have n4_ := Aside0.mk (bD HB.out)
      clear BK102
      clear BK103
      clear BK108
      clear BK109
      clear HB
      have BK102 := n0_
      have BK103 := n1_
      have BK108 := n2_
      have BK109 := n3_
      have HB := n4_
      clear n0_ n1_ n2_ n3_ n4_
      refine start_ (n := 8) (S := fun w' => w'.cell? ⟨gb102, 0, none⟩ = some (.int .i64 a0_0) ∧ w'.cell? ⟨gb102, 1, none⟩ = some (.int .i64 a0_1) ∧ w'.cell? ⟨gb102, 2, none⟩ = some (.int .i64 a0_2) ∧ w'.cell? ⟨gb102, 3, none⟩ = some (.int .i64 a0_3) ∧ w'.cell? ⟨gb102, 4, none⟩ = some (.bool a0_4)) (ds := []) #[false, false, false, false, false, false, false, false] (by kernel_rfl) rfl rfl ⟨(bC BK102.out 0).trans rfl, (bC BK102.out 1).trans rfl, (bC BK102.out 2).trans rfl, (bC BK102.out 3).trans rfl, (bC BK102.out 4).trans rfl⟩ (fun hHeld => ?_); refine with_tabW stmt_form.tab8 stmt_form.bits8 (fun HT_ HW_ => ?_)
      generalize w40.drew = w41 at BK102 BK103 BK108 BK109 HB hHeld ⊢
      refine bR (i := 0) (N := some 28) (v := ?_) (a' := ?_) #[true, false, false, false, false, false, false, false] rfl rfl (bQ HT_.out (by kernel_rfl)) (fun _ _ _ h => h) (Or.inl ⟨by rfl, ?_⟩) ?_ ?_
      rotate_left
      ·intro w'
       go_simp
       with_reducible rfl
      rotate_left
      ·simp only [Act.put, sZ1, sZ2, sZ3, bL, bM]
       rfl
      refine bR (i := 2) (N := some 30) (v := ?_) (a' := ?_) #[true, false, true, false, false, false, false, false] rfl rfl (bQ HT_.out (by kernel_rfl)) (fun _ _ _ h => h) (Or.inl ⟨by rfl, ?_⟩) ?_ ?_
      rotate_left
      ·intro w'
       go_simp
       with_reducible rfl
      rotate_left
      ·simp only [Act.put, sZ1, sZ2, sZ3, bL, bM]
       rfl
      refine take_ (i := 1) (N := some 29) (v := ?_) (a' := ?_) #[true, true, true, false, false, false, false, false] rfl rfl (bX HT_.out HW_.out (by kernel_rfl)) (fun _ _ _ h => h) (Or.inl ⟨by rfl, ?_⟩) hHeld ?_ ?_
      rotate_left
      ·rintro w' ⟨s0, s1, s2, s3, s4⟩
       go_simp
       with_reducible rfl
      rotate_left
      ·simp only [Act.put, sZ1, sZ2, sZ3, bL, bM]
       rfl
      refine bR (i := 4) (N := some 32) (v := ?_) (a' := ?_) #[true, true, true, false, true, false, false, false] rfl rfl (bQ HT_.out (by kernel_rfl)) (fun _ _ _ h => h) (Or.inl ⟨by rfl, ?_⟩) ?_ ?_
      rotate_left
      ·intro w'
       go_simp
       with_reducible rfl
      rotate_left
      ·simp only [Act.put, sZ1, sZ2, sZ3, bL, bM]
       rfl
      refine take_ (i := 3) (N := some 31) (v := ?_) (a' := ?_) #[true, true, true, true, true, false, false, false] rfl rfl (bX HT_.out HW_.out (by kernel_rfl)) (fun _ _ _ h => h) (Or.inl ⟨by rfl, ?_⟩) hHeld ?_ ?_
      rotate_left
      ·rintro w' ⟨s0, s1, s2, s3, s4⟩
       go_simp
       with_reducible rfl
      rotate_left
      ·simp only [Act.put, sZ1, sZ2, sZ3, bL, bM]
       rfl
      refine one_ (i := 5) (N := none) #[true, true, true, true, true, true, false, false] rfl rfl (one_of HT_.out (by kernel_rfl)) (by decide) (fun K hK => ?_)
      have hs42 : w41.cell? ⟨gb109, 3, none⟩ = some (.int .i64 0) := (bC BK109.out 3).trans rfl
      have hfs42 := bB BK109.out 3
      have hns42_0 := NB102_109.out
      have hns42_1 := NB103_109.out
      have hns42_2 := NB108_109.out
      have hms42_0 := NB109_102.out
      have hms42_1 := NB109_103.out
      have hms42_2 := NB109_108.out
      refine skip_ (w1 := ?_) (by rfl) rfl ?_ ?_
      rotate_left
      ·go_simp
       rfl
      refine hK.out _ _ ⟨((bN (p := ⟨gb109, _, none⟩) NB102_109.out _).trans (hHeld.1)), ((bN (p := ⟨gb109, _, none⟩) NB102_109.out _).trans (hHeld.2.1)), ((bN (p := ⟨gb109, _, none⟩) NB102_109.out _).trans (hHeld.2.2.1)), ((bN (p := ⟨gb109, _, none⟩) NB102_109.out _).trans (hHeld.2.2.2.1)), ((bN (p := ⟨gb109, _, none⟩) NB102_109.out _).trans (hHeld.2.2.2.2))⟩ (fun hHeld => ?_)
      clear hK K
      refine bR (i := 6) (N := some 33) (v := ?_) (a' := ?_) #[true, true, true, true, true, true, true, false] rfl rfl (bQ HT_.out (by kernel_rfl)) (fun _ _ _ h => h) (Or.inl ⟨by rfl, ?_⟩) ?_ ?_
      rotate_left
      ·intro w'
       go_simp
       with_reducible rfl
      rotate_left
      ·simp only [Act.put, sZ1, sZ2, sZ3, bL, bM]
       rfl
      refine one_ (i := 7) (N := none) #[true, true, true, true, true, true, true, true] rfl rfl (one_of HT_.out (by kernel_rfl)) (by decide) (fun K hK => ?_)
      have hs43 : w41.cell? ⟨gb109, 4, none⟩ = some (.bool false) := (bC BK109.out 4).trans rfl
      have hfs43 := bB BK109.out 4
      have hns43_0 := NB102_109.out
      have hns43_1 := NB103_109.out
      have hns43_2 := NB108_109.out
      have hms43_0 := NB109_102.out
      have hms43_1 := NB109_103.out
      have hms43_2 := NB109_108.out
      refine skip_ (w1 := ?_) (by rfl) rfl ?_ ?_
      rotate_left
      ·go_simp
       rfl
      refine hK.out _ _ ⟨((bN (p := ⟨gb109, _, none⟩) NB102_109.out _).trans (hHeld.1)), ((bN (p := ⟨gb109, _, none⟩) NB102_109.out _).trans (hHeld.2.1)), ((bN (p := ⟨gb109, _, none⟩) NB102_109.out _).trans (hHeld.2.2.1)), ((bN (p := ⟨gb109, _, none⟩) NB102_109.out _).trans (hHeld.2.2.2.1)), ((bN (p := ⟨gb109, _, none⟩) NB102_109.out _).trans (hHeld.2.2.2.2))⟩ (fun hHeld => ?_)
      clear hK K
      refine done_ (done_of HT_.out (by kernel_rfl)) ?_
      try go_wp2
      have n0_ : Aside0 (((w41.setCell ⟨gb109, 3, none⟩ (.int .i64 a0_3)).setCell ⟨gb109, 4, none⟩ (.bool a0_4)).heap[gb102]? = some (.cells #[.int .i64 a0_0, .int .i64 a0_1, .int .i64 a0_2, .int .i64 a0_3, .bool a0_4] 23 (0, 0))) := ⟨by (with_reducible repeat (first | refine bG ?_ _ | refine bH ?_ | refine bF ?_ _)); refine bW ?_ NB102_109.out _; (with_reducible repeat (first | refine bG ?_ _ | refine bH ?_ | refine bF ?_ _)); refine bW ?_ NB102_109.out _; (with_reducible repeat (first | refine bG ?_ _ | refine bH ?_ | refine bF ?_ _)); exact BK102.out⟩
      have n1_ : Aside0 (((w41.setCell ⟨gb109, 3, none⟩ (.int .i64 a0_3)).setCell ⟨gb109, 4, none⟩ (.bool a0_4)).heap[gb103]? = some (.cells #[.bool false, .bool false, .bool false] 91 (0, 0))) := ⟨by (with_reducible repeat (first | refine bG ?_ _ | refine bH ?_ | refine bF ?_ _)); refine bW ?_ NB103_109.out _; (with_reducible repeat (first | refine bG ?_ _ | refine bH ?_ | refine bF ?_ _)); refine bW ?_ NB103_109.out _; (with_reducible repeat (first | refine bG ?_ _ | refine bH ?_ | refine bF ?_ _)); exact BK103.out⟩
      have n2_ : Aside0 (((w41.setCell ⟨gb109, 3, none⟩ (.int .i64 a0_3)).setCell ⟨gb109, 4, none⟩ (.bool a0_4)).heap[gb108]? = some (.cells #[.bool t104, .bool true, .bool true] 91 (0, 0))) := ⟨by (with_reducible repeat (first | refine bG ?_ _ | refine bH ?_ | refine bF ?_ _)); refine bW ?_ NB108_109.out _; (with_reducible repeat (first | refine bG ?_ _ | refine bH ?_ | refine bF ?_ _)); refine bW ?_ NB108_109.out _; (with_reducible repeat (first | refine bG ?_ _ | refine bH ?_ | refine bF ?_ _)); exact BK108.out⟩
      have n3_ : Aside0 (((w41.setCell ⟨gb109, 3, none⟩ (.int .i64 a0_3)).setCell ⟨gb109, 4, none⟩ (.bool a0_4)).heap[gb109]? = some (.cells #[.int .i64 a0_0, .int .i64 x110001_2, .int .i64 a0_2, .int .i64 a0_3, .bool a0_4] 23 (0, 0))) := ⟨by (with_reducible repeat (first | refine bG ?_ _ | refine bH ?_ | refine bF ?_ _)); refine bY (cs := #[.int .i64 a0_0, .int .i64 x110001_2, .int .i64 a0_2, .int .i64 a0_3, .bool false]) ?_ 4 _ rfl; (with_reducible repeat (first | refine bG ?_ _ | refine bH ?_ | refine bF ?_ _)); refine bY (cs := #[.int .i64 a0_0, .int .i64 x110001_2, .int .i64 a0_2, .int .i64 0, .bool false]) ?_ 3 _ rfl; (with_reducible repeat (first | refine bG ?_ _ | refine bH ?_ | refine bF ?_ _)); exact BK109.out⟩
      have n4_ : Aside0 (Below w.heap.size w ((w41.setCell ⟨gb109, 3, none⟩ (.int .i64 a0_3)).setCell ⟨gb109, 4, none⟩ (.bool a0_4))) := ⟨by repeat (first | (with_reducible first | exact HB.out | apply bE | apply bA | apply bD | refine bJ ?_ GE102.out | refine bJ ?_ GE103.out | refine bJ ?_ GE108.out | refine bJ ?_ GE109.out) | exact HB.out)⟩
      (try clear BK102)
      (try clear BK103)
      (try clear BK108)
      (try clear BK109)
      (try clear HB)
      generalize ((w41.setCell ⟨gb109, 3, none⟩ (.int .i64 a0_3)).setCell ⟨gb109, 4, none⟩ (.bool a0_4)) = w44 at n0_ n1_ n2_ n3_ n4_ ⊢
      have BK102 := n0_
      have BK103 := n1_
      have BK108 := n2_
      have BK109 := n3_
      have HB := n4_
      clear n0_ n1_ n2_ n3_ n4_
      have n0_ := Aside0.mk (bH BK102.out)
      have n1_ := Aside0.mk (bH BK103.out)
      have n2_ := Aside0.mk (bH BK108.out)
      have n3_ := Aside0.mk (bH BK109.out)
      have n4_ := Aside0.mk (bD HB.out)
      clear BK102
      clear BK103
      clear BK108
      clear BK109
      clear HB
      have BK102 := n0_
      have BK103 := n1_
      have BK108 := n2_
      have BK109 := n3_
      have HB := n4_
      clear n0_ n1_ n2_ n3_ n4_
      refine start_ (n := 9) (S := fun w' => w'.cell? ⟨gb108, 0, none⟩ = some (.bool t104) ∧ w'.cell? ⟨gb108, 1, none⟩ = some (.bool true) ∧ w'.cell? ⟨gb108, 2, none⟩ = some (.bool true) ∧ w'.cell? ⟨gb109, 0, none⟩ = some (.int .i64 a0_0) ∧ w'.cell? ⟨gb109, 1, none⟩ = some (.int .i64 x110001_2) ∧ w'.cell? ⟨gb109, 2, none⟩ = some (.int .i64 a0_2) ∧ w'.cell? ⟨gb109, 3, none⟩ = some (.int .i64 a0_3) ∧ w'.cell? ⟨gb109, 4, none⟩ = some (.bool a0_4) ∧ w'.cell? ⟨gb102, 0, none⟩ = some (.int .i64 a0_0) ∧ w'.cell? ⟨gb102, 1, none⟩ = some (.int .i64 a0_1) ∧ w'.cell? ⟨gb102, 2, none⟩ = some (.int .i64 a0_2) ∧ w'.cell? ⟨gb102, 3, none⟩ = some (.int .i64 a0_3) ∧ w'.cell? ⟨gb102, 4, none⟩ = some (.bool a0_4)) (ds := []) #[false, false, false, false, false, false, false, false, false] (by kernel_rfl) rfl rfl ⟨(bC BK108.out 0).trans rfl, (bC BK108.out 1).trans rfl, (bC BK108.out 2).trans rfl, (bC BK109.out 0).trans rfl, (bC BK109.out 1).trans rfl, (bC BK109.out 2).trans rfl, (bC BK109.out 3).trans rfl, (bC BK109.out 4).trans rfl, (bC BK102.out 0).trans rfl, (bC BK102.out 1).trans rfl, (bC BK102.out 2).trans rfl, (bC BK102.out 3).trans rfl, (bC BK102.out 4).trans rfl⟩ (fun hHeld => ?_); refine with_tabW stmt_form.tab9 stmt_form.bits9 (fun HT_ HW_ => ?_)
      generalize w44.drew = w45 at BK102 BK103 BK108 BK109 HB hHeld ⊢
      refine bR (i := 1) (N := some 35) (v := ?_) (a' := ?_) #[false, true, false, false, false, false, false, false, false] rfl rfl (bQ HT_.out (by kernel_rfl)) (fun _ _ _ h => h) (Or.inl ⟨by rfl, ?_⟩) ?_ ?_
      rotate_left
      ·intro w'
       go_simp
       with_reducible rfl
      rotate_left
      ·simp only [Act.put, sZ1, sZ2, sZ3, bL, bM]
       rfl
      refine bR (i := 2) (N := some 36) (v := ?_) (a' := ?_) #[false, true, true, false, false, false, false, false, false] rfl rfl (bQ HT_.out (by kernel_rfl)) (fun _ _ _ h => h) (Or.inl ⟨by rfl, ?_⟩) ?_ ?_
      rotate_left
      ·intro w'
       go_simp
       with_reducible rfl
      rotate_left
      ·simp only [Act.put, sZ1, sZ2, sZ3, bL, bM]
       rfl
      refine take_ (i := 0) (N := some 34) (v := ?_) (a' := ?_) #[true, true, true, false, false, false, false, false, false] rfl rfl (bX HT_.out HW_.out (by kernel_rfl)) (fun _ _ _ h => h) (Or.inl ⟨by rfl, ?_⟩) hHeld ?_ ?_
      rotate_left
      ·rintro w' ⟨s0, s1, s2, s3, s4, s5, s6, s7, s8, s9, s10, s11, s12⟩
       go_simp
       with_reducible rfl
      rotate_left
      ·simp only [Act.put, sZ1, sZ2, sZ3, bL, bM]
       rfl
      refine take_ (i := 3) (N := some 37) (v := ?_) (a' := ?_) #[true, true, true, true, false, false, false, false, false] rfl rfl (bX HT_.out HW_.out (by kernel_rfl)) (fun _ _ _ h => h) (Or.inl ⟨by rfl, ?_⟩) hHeld ?_ ?_
      rotate_left
      ·rintro w' ⟨s0, s1, s2, s3, s4, s5, s6, s7, s8, s9, s10, s11, s12⟩
       go_simp
       with_reducible rfl
      rotate_left
      ·simp only [Act.put, sZ1, sZ2, sZ3, bL, bM]
       rfl
      refine take_ (i := 4) (N := some 38) (v := ?_) (a' := ?_) #[true, true, true, true, true, false, false, false, false] rfl rfl (bX HT_.out HW_.out (by kernel_rfl)) (fun _ _ _ h => h) (Or.inl ⟨by rfl, ?_⟩) hHeld ?_ ?_
      rotate_left
      ·rintro w' ⟨s0, s1, s2, s3, s4, s5, s6, s7, s8, s9, s10, s11, s12⟩
       go_simp
       with_reducible rfl
      rotate_left
      ·simp only [Act.put, sZ1, sZ2, sZ3, bL, bM]
       rfl
      refine bR (i := 5) (N := some 39) (v := ?_) (a' := ?_) #[true, true, true, true, true, true, false, false, false] rfl rfl (bQ HT_.out (by kernel_rfl)) (fun _ _ _ h => h) (Or.inl ⟨by rfl, ?_⟩) ?_ ?_
      rotate_left
      ·intro w'
       go_simp
       with_reducible rfl
      rotate_left
      ·simp only [Act.put, sZ1, sZ2, sZ3, bL, bM]
       rfl
      refine bR (i := 6) (N := some 40) (v := ?_) (a' := ?_) #[true, true, true, true, true, true, true, false, false] rfl rfl (bQ HT_.out (by kernel_rfl)) (fun _ _ _ h => h) (Or.inl ⟨by rfl, ?_⟩) ?_ ?_
      rotate_left
      ·intro w'
       go_simp
       with_reducible rfl
      rotate_left
      ·simp only [Act.put, sZ1, sZ2, sZ3, bL, bM]
       rfl
      refine one_ (i := 7) (N := none) #[true, true, true, true, true, true, true, true, false] rfl rfl (one_of HT_.out (by kernel_rfl)) (by decide) (fun K hK => ?_)
      have hs46 : w45.cell? ⟨gb103, 0, none⟩ = some (.bool false) := (bC BK103.out 0).trans rfl
      have hfs46 := bB BK103.out 0
      have hns46_0 := NB102_103.out
      have hns46_2 := NB108_103.out
      have hns46_3 := NB109_103.out
      have hms46_0 := NB103_102.out
      have hms46_2 := NB103_108.out
      have hms46_3 := NB103_109.out
      have hs47 : w45.cell? ⟨gb103, 1, none⟩ = some (.bool false) := (bC BK103.out 1).trans rfl
      have hfs47 := bB BK103.out 1
      have hns47_0 := NB102_103.out
      have hns47_2 := NB108_103.out
      have hns47_3 := NB109_103.out
      have hms47_0 := NB103_102.out
      have hms47_2 := NB103_108.out
      have hms47_3 := NB103_109.out
      have hs48 : w45.cell? ⟨gb103, 2, none⟩ = some (.bool false) := (bC BK103.out 2).trans rfl
      have hfs48 := bB BK103.out 2
      have hns48_0 := NB102_103.out
      have hns48_2 := NB108_103.out
      have hns48_3 := NB109_103.out
      have hms48_0 := NB103_102.out
      have hms48_2 := NB103_108.out
      have hms48_3 := NB103_109.out
      refine skip_ (w1 := ?_) (by rfl) rfl ?_ ?_
      rotate_left
      ·go_simp
       rfl
      refine hK.out _ _ ⟨((bN (p := ⟨gb103, _, none⟩) NB108_103.out _).trans (((bN (p := ⟨gb103, _, none⟩) NB108_103.out _).trans (((bN (p := ⟨gb103, _, none⟩) NB108_103.out _).trans (hHeld.1)))))), ((bN (p := ⟨gb103, _, none⟩) NB108_103.out _).trans (((bN (p := ⟨gb103, _, none⟩) NB108_103.out _).trans (((bN (p := ⟨gb103, _, none⟩) NB108_103.out _).trans (hHeld.2.1)))))), ((bN (p := ⟨gb103, _, none⟩) NB108_103.out _).trans (((bN (p := ⟨gb103, _, none⟩) NB108_103.out _).trans (((bN (p := ⟨gb103, _, none⟩) NB108_103.out _).trans (hHeld.2.2.1)))))), ((bN (p := ⟨gb103, _, none⟩) NB109_103.out _).trans (((bN (p := ⟨gb103, _, none⟩) NB109_103.out _).trans (((bN (p := ⟨gb103, _, none⟩) NB109_103.out _).trans (hHeld.2.2.2.1)))))), ((bN (p := ⟨gb103, _, none⟩) NB109_103.out _).trans (((bN (p := ⟨gb103, _, none⟩) NB109_103.out _).trans (((bN (p := ⟨gb103, _, none⟩) NB109_103.out _).trans (hHeld.2.2.2.2.1)))))), ((bN (p := ⟨gb103, _, none⟩) NB109_103.out _).trans (((bN (p := ⟨gb103, _, none⟩) NB109_103.out _).trans (((bN (p := ⟨gb103, _, none⟩) NB109_103.out _).trans (hHeld.2.2.2.2.2.1)))))), ((bN (p := ⟨gb103, _, none⟩) NB109_103.out _).trans (((bN (p := ⟨gb103, _, none⟩) NB109_103.out _).trans (((bN (p := ⟨gb103, _, none⟩) NB109_103.out _).trans (hHeld.2.2.2.2.2.2.1)))))), ((bN (p := ⟨gb103, _, none⟩) NB109_103.out _).trans (((bN (p := ⟨gb103, _, none⟩) NB109_103.out _).trans (((bN (p := ⟨gb103, _, none⟩) NB109_103.out _).trans (hHeld.2.2.2.2.2.2.2.1)))))), ((bN (p := ⟨gb103, _, none⟩) NB102_103.out _).trans (((bN (p := ⟨gb103, _, none⟩) NB102_103.out _).trans (((bN (p := ⟨gb103, _, none⟩) NB102_103.out _).trans (hHeld.2.2.2.2.2.2.2.2.1)))))), ((bN (p := ⟨gb103, _, none⟩) NB102_103.out _).trans (((bN (p := ⟨gb103, _, none⟩) NB102_103.out _).trans (((bN (p := ⟨gb103, _, none⟩) NB102_103.out _).trans (hHeld.2.2.2.2.2.2.2.2.2.1)))))), ((bN (p := ⟨gb103, _, none⟩) NB102_103.out _).trans (((bN (p := ⟨gb103, _, none⟩) NB102_103.out _).trans (((bN (p := ⟨gb103, _, none⟩) NB102_103.out _).trans (hHeld.2.2.2.2.2.2.2.2.2.2.1)))))), ((bN (p := ⟨gb103, _, none⟩) NB102_103.out _).trans (((bN (p := ⟨gb103, _, none⟩) NB102_103.out _).trans (((bN (p := ⟨gb103, _, none⟩) NB102_103.out _).trans (hHeld.2.2.2.2.2.2.2.2.2.2.2.1)))))), ((bN (p := ⟨gb103, _, none⟩) NB102_103.out _).trans (((bN (p := ⟨gb103, _, none⟩) NB102_103.out _).trans (((bN (p := ⟨gb103, _, none⟩) NB102_103.out _).trans (hHeld.2.2.2.2.2.2.2.2.2.2.2.2))))))⟩ (fun hHeld => ?_)
      clear hK K
      refine bR (i := 8) (N := some 3) (v := ?_) (a' := ?_) #[true, true, true, true, true, true, true, true, true] rfl rfl (bQ HT_.out (by kernel_rfl)) (fun _ _ _ h => h) (Or.inl ⟨by rfl, ?_⟩) ?_ ?_
      rotate_left
      ·intro w'
       go_simp
       with_reducible rfl
      rotate_left
      ·simp only [Act.put, sZ1, sZ2, sZ3, bL, bM]
       rfl
      refine done_ (done_of HT_.out (by kernel_rfl)) ?_
      try go_wp2
      refine bodyPost_ret (results_ct rfl _ _ gb103 91 #[.bool t104, .bool true, .bool true] (0, 0) _ rfl (by (with_reducible repeat (first | refine bG ?_ _ | refine bH ?_ | refine bF ?_ _)); refine bY (cs := #[.bool t104, .bool true, .bool false]) ?_ 2 _ rfl; (with_reducible repeat (first | refine bG ?_ _ | refine bH ?_ | refine bF ?_ _)); refine bY (cs := #[.bool t104, .bool false, .bool false]) ?_ 1 _ rfl; (with_reducible repeat (first | refine bG ?_ _ | refine bH ?_ | refine bF ?_ _)); refine bY (cs := #[.bool false, .bool false, .bool false]) ?_ 0 _ rfl; (with_reducible repeat (first | refine bG ?_ _ | refine bH ?_ | refine bF ?_ _)); exact BK103.out) Try.underlying91 rfl (by kernel_rfl)) rfl ?_
      exact ⟨by first | rfl | (simp [errW_none, errW_some] <;> rfl) | (simp [*, errW_none, errW_some] <;> rfl), by repeat (first | (with_reducible first | exact HB.out | apply bE | apply bA | apply bD | refine bJ ?_ GE102.out | refine bJ ?_ GE103.out | refine bJ ?_ GE108.out | refine bJ ?_ GE109.out) | exact HB.out)⟩
     ·replace c30 := Bool.eq_false_iff.mpr c30
      subst c30
      have H1 : (some (t104, true, true, false)) = some (r1, r2, r3, r4) := by rw [if_neg (show ¬ (false = true) by decide)] at H; exact H
      clear H
      have H := H1
      clear H1
      simp only [Option.some.injEq, Prod.mk.injEq] at H
      obtain ⟨rfl, rfl, rfl, rfl⟩ := H
      have hnb49 := NB108_102.out
      have hnc49 := NB102_108.out
      have hnb50 := NB108_103.out
      have hnc50 := NB103_108.out
      have hnb51 := NB108_109.out
      have hnc51 := NB109_108.out
      have hcz52_0 : wc.cell? ⟨gb108, 0, none⟩ = some (.bool t104) := (bC BK108.out 0).trans rfl
      have hcz52_1 : wc.cell? ⟨gb108, 1, none⟩ = some (.bool true) := (bC BK108.out 1).trans rfl
      have hcz52_2 : wc.cell? ⟨gb108, 2, none⟩ = some (.bool true) := (bC BK108.out 2).trans rfl
      have hfz52_0 := bB BK108.out 0
      have hfz52_1 := bB BK108.out 1
      have hfz52_2 := bB BK108.out 2
      have hnb53 := NB102_103.out
      have hnc53 := NB103_102.out
      have hnb54 := NB102_109.out
      have hnc54 := NB109_102.out
      have hcz55_0 : wc.cell? ⟨gb102, 0, none⟩ = some (.int .i64 a0_0) := (bC BK102.out 0).trans rfl
      have hcz55_1 : wc.cell? ⟨gb102, 1, none⟩ = some (.int .i64 a0_1) := (bC BK102.out 1).trans rfl
      have hcz55_2 : wc.cell? ⟨gb102, 2, none⟩ = some (.int .i64 a0_2) := (bC BK102.out 2).trans rfl
      have hcz55_3 : wc.cell? ⟨gb102, 3, none⟩ = some (.int .i64 a0_3) := (bC BK102.out 3).trans rfl
      have hcz55_4 : wc.cell? ⟨gb102, 4, none⟩ = some (.bool a0_4) := (bC BK102.out 4).trans rfl
      have hfz55_0 := bB BK102.out 0
      have hfz55_1 := bB BK102.out 1
      have hfz55_2 := bB BK102.out 2
      have hfz55_3 := bB BK102.out 3
      have hfz55_4 := bB BK102.out 4
      have hnb56 := NB109_103.out
      have hnc56 := NB103_109.out
      have hcz57_0 : wc.cell? ⟨gb109, 0, none⟩ = some (.int .i64 a0_0) := (bC BK109.out 0).trans rfl
      have hcz57_1 : wc.cell? ⟨gb109, 1, none⟩ = some (.int .i64 x110001_2) := (bC BK109.out 1).trans rfl
      have hcz57_2 : wc.cell? ⟨gb109, 2, none⟩ = some (.int .i64 0) := (bC BK109.out 2).trans rfl
      have hcz57_3 : wc.cell? ⟨gb109, 3, none⟩ = some (.int .i64 0) := (bC BK109.out 3).trans rfl
      have hcz57_4 : wc.cell? ⟨gb109, 4, none⟩ = some (.bool false) := (bC BK109.out 4).trans rfl
      have hfz57_0 := bB BK109.out 0
      have hfz57_1 := bB BK109.out 1
      have hfz57_2 := bB BK109.out 2
      have hfz57_3 := bB BK109.out 3
      have hfz57_4 := bB BK109.out 4
      try go_wp2
      have n0_ : Aside0 ((wc.setCell ⟨gb109, 2, none⟩ (.int .i64 a0_2)).heap[gb102]? = some (.cells #[.int .i64 a0_0, .int .i64 a0_1, .int .i64 a0_2, .int .i64 a0_3, .bool a0_4] 23 (0, 0))) := ⟨by (with_reducible repeat (first | refine bG ?_ _ | refine bH ?_ | refine bF ?_ _)); refine bW ?_ NB102_109.out _; (with_reducible repeat (first | refine bG ?_ _ | refine bH ?_ | refine bF ?_ _)); exact BK102.out⟩
      have n1_ : Aside0 ((wc.setCell ⟨gb109, 2, none⟩ (.int .i64 a0_2)).heap[gb103]? = some (.cells #[.bool false, .bool false, .bool false] 91 (0, 0))) := ⟨by (with_reducible repeat (first | refine bG ?_ _ | refine bH ?_ | refine bF ?_ _)); refine bW ?_ NB103_109.out _; (with_reducible repeat (first | refine bG ?_ _ | refine bH ?_ | refine bF ?_ _)); exact BK103.out⟩
      have n2_ : Aside0 ((wc.setCell ⟨gb109, 2, none⟩ (.int .i64 a0_2)).heap[gb108]? = some (.cells #[.bool t104, .bool true, .bool true] 91 (0, 0))) := ⟨by (with_reducible repeat (first | refine bG ?_ _ | refine bH ?_ | refine bF ?_ _)); refine bW ?_ NB108_109.out _; (with_reducible repeat (first | refine bG ?_ _ | refine bH ?_ | refine bF ?_ _)); exact BK108.out⟩
      have n3_ : Aside0 ((wc.setCell ⟨gb109, 2, none⟩ (.int .i64 a0_2)).heap[gb109]? = some (.cells #[.int .i64 a0_0, .int .i64 x110001_2, .int .i64 a0_2, .int .i64 0, .bool false] 23 (0, 0))) := ⟨by (with_reducible repeat (first | refine bG ?_ _ | refine bH ?_ | refine bF ?_ _)); refine bY (cs := #[.int .i64 a0_0, .int .i64 x110001_2, .int .i64 0, .int .i64 0, .bool false]) ?_ 2 _ rfl; (with_reducible repeat (first | refine bG ?_ _ | refine bH ?_ | refine bF ?_ _)); exact BK109.out⟩
      have n4_ : Aside0 (Below w.heap.size w (wc.setCell ⟨gb109, 2, none⟩ (.int .i64 a0_2))) := ⟨by repeat (first | (with_reducible first | exact HB.out | apply bE | apply bA | apply bD | refine bJ ?_ GE102.out | refine bJ ?_ GE103.out | refine bJ ?_ GE108.out | refine bJ ?_ GE109.out) | exact HB.out)⟩
      (try clear BK102)
      (try clear BK103)
      (try clear BK108)
      (try clear BK109)
      (try clear HB)
      generalize (wc.setCell ⟨gb109, 2, none⟩ (.int .i64 a0_2)) = w58 at n0_ n1_ n2_ n3_ n4_ ⊢
      have BK102 := n0_
      have BK103 := n1_
      have BK108 := n2_
      have BK109 := n3_
      have HB := n4_
      clear n0_ n1_ n2_ n3_ n4_
      have n0_ := Aside0.mk (bH BK102.out)
      have n1_ := Aside0.mk (bH BK103.out)
      have n2_ := Aside0.mk (bH BK108.out)
      have n3_ := Aside0.mk (bH BK109.out)
      have n4_ := Aside0.mk (bD HB.out)
      clear BK102
      clear BK103
      clear BK108
      clear BK109
      clear HB
      have BK102 := n0_
      have BK103 := n1_
      have BK108 := n2_
      have BK109 := n3_
      have HB := n4_
      clear n0_ n1_ n2_ n3_ n4_
      refine start_ (n := 8) (S := fun w' => w'.cell? ⟨gb102, 0, none⟩ = some (.int .i64 a0_0) ∧ w'.cell? ⟨gb102, 1, none⟩ = some (.int .i64 a0_1) ∧ w'.cell? ⟨gb102, 2, none⟩ = some (.int .i64 a0_2) ∧ w'.cell? ⟨gb102, 3, none⟩ = some (.int .i64 a0_3) ∧ w'.cell? ⟨gb102, 4, none⟩ = some (.bool a0_4)) (ds := []) #[false, false, false, false, false, false, false, false] (by kernel_rfl) rfl rfl ⟨(bC BK102.out 0).trans rfl, (bC BK102.out 1).trans rfl, (bC BK102.out 2).trans rfl, (bC BK102.out 3).trans rfl, (bC BK102.out 4).trans rfl⟩ (fun hHeld => ?_); refine with_tabW stmt_form.tab8 stmt_form.bits8 (fun HT_ HW_ => ?_)
      generalize w58.drew = w59 at BK102 BK103 BK108 BK109 HB hHeld ⊢
      refine bR (i := 0) (N := some 28) (v := ?_) (a' := ?_) #[true, false, false, false, false, false, false, false] rfl rfl (bQ HT_.out (by kernel_rfl)) (fun _ _ _ h => h) (Or.inl ⟨by rfl, ?_⟩) ?_ ?_
      rotate_left
      ·intro w'
       go_simp
       with_reducible rfl
      rotate_left
      ·simp only [Act.put, sZ1, sZ2, sZ3, bL, bM]
       rfl
      refine bR (i := 2) (N := some 30) (v := ?_) (a' := ?_) #[true, false, true, false, false, false, false, false] rfl rfl (bQ HT_.out (by kernel_rfl)) (fun _ _ _ h => h) (Or.inl ⟨by rfl, ?_⟩) ?_ ?_
      rotate_left
      ·intro w'
       go_simp
       with_reducible rfl
      rotate_left
      ·simp only [Act.put, sZ1, sZ2, sZ3, bL, bM]
       rfl
      refine take_ (i := 1) (N := some 29) (v := ?_) (a' := ?_) #[true, true, true, false, false, false, false, false] rfl rfl (bX HT_.out HW_.out (by kernel_rfl)) (fun _ _ _ h => h) (Or.inl ⟨by rfl, ?_⟩) hHeld ?_ ?_
      rotate_left
      ·rintro w' ⟨s0, s1, s2, s3, s4⟩
       go_simp
       with_reducible rfl
      rotate_left
      ·simp only [Act.put, sZ1, sZ2, sZ3, bL, bM]
       rfl
      refine bR (i := 4) (N := some 32) (v := ?_) (a' := ?_) #[true, true, true, false, true, false, false, false] rfl rfl (bQ HT_.out (by kernel_rfl)) (fun _ _ _ h => h) (Or.inl ⟨by rfl, ?_⟩) ?_ ?_
      rotate_left
      ·intro w'
       go_simp
       with_reducible rfl
      rotate_left
      ·simp only [Act.put, sZ1, sZ2, sZ3, bL, bM]
       rfl
      refine take_ (i := 3) (N := some 31) (v := ?_) (a' := ?_) #[true, true, true, true, true, false, false, false] rfl rfl (bX HT_.out HW_.out (by kernel_rfl)) (fun _ _ _ h => h) (Or.inl ⟨by rfl, ?_⟩) hHeld ?_ ?_
      rotate_left
      ·rintro w' ⟨s0, s1, s2, s3, s4⟩
       go_simp
       with_reducible rfl
      rotate_left
      ·simp only [Act.put, sZ1, sZ2, sZ3, bL, bM]
       rfl
      refine one_ (i := 5) (N := none) #[true, true, true, true, true, true, false, false] rfl rfl (one_of HT_.out (by kernel_rfl)) (by decide) (fun K hK => ?_)
      have hs60 : w59.cell? ⟨gb109, 3, none⟩ = some (.int .i64 0) := (bC BK109.out 3).trans rfl
      have hfs60 := bB BK109.out 3
      have hns60_0 := NB102_109.out
      have hns60_1 := NB103_109.out
      have hns60_2 := NB108_109.out
      have hms60_0 := NB109_102.out
      have hms60_1 := NB109_103.out
      have hms60_2 := NB109_108.out
      refine skip_ (w1 := ?_) (by rfl) rfl ?_ ?_
      rotate_left
      ·go_simp
       rfl
      refine hK.out _ _ ⟨((bN (p := ⟨gb109, _, none⟩) NB102_109.out _).trans (hHeld.1)), ((bN (p := ⟨gb109, _, none⟩) NB102_109.out _).trans (hHeld.2.1)), ((bN (p := ⟨gb109, _, none⟩) NB102_109.out _).trans (hHeld.2.2.1)), ((bN (p := ⟨gb109, _, none⟩) NB102_109.out _).trans (hHeld.2.2.2.1)), ((bN (p := ⟨gb109, _, none⟩) NB102_109.out _).trans (hHeld.2.2.2.2))⟩ (fun hHeld => ?_)
      clear hK K
      refine bR (i := 6) (N := some 33) (v := ?_) (a' := ?_) #[true, true, true, true, true, true, true, false] rfl rfl (bQ HT_.out (by kernel_rfl)) (fun _ _ _ h => h) (Or.inl ⟨by rfl, ?_⟩) ?_ ?_
      rotate_left
      ·intro w'
       go_simp
       with_reducible rfl
      rotate_left
      ·simp only [Act.put, sZ1, sZ2, sZ3, bL, bM]
       rfl
      refine one_ (i := 7) (N := none) #[true, true, true, true, true, true, true, true] rfl rfl (one_of HT_.out (by kernel_rfl)) (by decide) (fun K hK => ?_)
      have hs61 : w59.cell? ⟨gb109, 4, none⟩ = some (.bool false) := (bC BK109.out 4).trans rfl
      have hfs61 := bB BK109.out 4
      have hns61_0 := NB102_109.out
      have hns61_1 := NB103_109.out
      have hns61_2 := NB108_109.out
      have hms61_0 := NB109_102.out
      have hms61_1 := NB109_103.out
      have hms61_2 := NB109_108.out
      refine skip_ (w1 := ?_) (by rfl) rfl ?_ ?_
      rotate_left
      ·go_simp
       rfl
      refine hK.out _ _ ⟨((bN (p := ⟨gb109, _, none⟩) NB102_109.out _).trans (hHeld.1)), ((bN (p := ⟨gb109, _, none⟩) NB102_109.out _).trans (hHeld.2.1)), ((bN (p := ⟨gb109, _, none⟩) NB102_109.out _).trans (hHeld.2.2.1)), ((bN (p := ⟨gb109, _, none⟩) NB102_109.out _).trans (hHeld.2.2.2.1)), ((bN (p := ⟨gb109, _, none⟩) NB102_109.out _).trans (hHeld.2.2.2.2))⟩ (fun hHeld => ?_)
      clear hK K
      refine done_ (done_of HT_.out (by kernel_rfl)) ?_
      try go_wp2
      have n0_ : Aside0 (((w59.setCell ⟨gb109, 3, none⟩ (.int .i64 a0_3)).setCell ⟨gb109, 4, none⟩ (.bool a0_4)).heap[gb102]? = some (.cells #[.int .i64 a0_0, .int .i64 a0_1, .int .i64 a0_2, .int .i64 a0_3, .bool a0_4] 23 (0, 0))) := ⟨by (with_reducible repeat (first | refine bG ?_ _ | refine bH ?_ | refine bF ?_ _)); refine bW ?_ NB102_109.out _; (with_reducible repeat (first | refine bG ?_ _ | refine bH ?_ | refine bF ?_ _)); refine bW ?_ NB102_109.out _; (with_reducible repeat (first | refine bG ?_ _ | refine bH ?_ | refine bF ?_ _)); exact BK102.out⟩
      have n1_ : Aside0 (((w59.setCell ⟨gb109, 3, none⟩ (.int .i64 a0_3)).setCell ⟨gb109, 4, none⟩ (.bool a0_4)).heap[gb103]? = some (.cells #[.bool false, .bool false, .bool false] 91 (0, 0))) := ⟨by (with_reducible repeat (first | refine bG ?_ _ | refine bH ?_ | refine bF ?_ _)); refine bW ?_ NB103_109.out _; (with_reducible repeat (first | refine bG ?_ _ | refine bH ?_ | refine bF ?_ _)); refine bW ?_ NB103_109.out _; (with_reducible repeat (first | refine bG ?_ _ | refine bH ?_ | refine bF ?_ _)); exact BK103.out⟩
      have n2_ : Aside0 (((w59.setCell ⟨gb109, 3, none⟩ (.int .i64 a0_3)).setCell ⟨gb109, 4, none⟩ (.bool a0_4)).heap[gb108]? = some (.cells #[.bool t104, .bool true, .bool true] 91 (0, 0))) := ⟨by (with_reducible repeat (first | refine bG ?_ _ | refine bH ?_ | refine bF ?_ _)); refine bW ?_ NB108_109.out _; (with_reducible repeat (first | refine bG ?_ _ | refine bH ?_ | refine bF ?_ _)); refine bW ?_ NB108_109.out _; (with_reducible repeat (first | refine bG ?_ _ | refine bH ?_ | refine bF ?_ _)); exact BK108.out⟩
      have n3_ : Aside0 (((w59.setCell ⟨gb109, 3, none⟩ (.int .i64 a0_3)).setCell ⟨gb109, 4, none⟩ (.bool a0_4)).heap[gb109]? = some (.cells #[.int .i64 a0_0, .int .i64 x110001_2, .int .i64 a0_2, .int .i64 a0_3, .bool a0_4] 23 (0, 0))) := ⟨by (with_reducible repeat (first | refine bG ?_ _ | refine bH ?_ | refine bF ?_ _)); refine bY (cs := #[.int .i64 a0_0, .int .i64 x110001_2, .int .i64 a0_2, .int .i64 a0_3, .bool false]) ?_ 4 _ rfl; (with_reducible repeat (first | refine bG ?_ _ | refine bH ?_ | refine bF ?_ _)); refine bY (cs := #[.int .i64 a0_0, .int .i64 x110001_2, .int .i64 a0_2, .int .i64 0, .bool false]) ?_ 3 _ rfl; (with_reducible repeat (first | refine bG ?_ _ | refine bH ?_ | refine bF ?_ _)); exact BK109.out⟩
      have n4_ : Aside0 (Below w.heap.size w ((w59.setCell ⟨gb109, 3, none⟩ (.int .i64 a0_3)).setCell ⟨gb109, 4, none⟩ (.bool a0_4))) := ⟨by repeat (first | (with_reducible first | exact HB.out | apply bE | apply bA | apply bD | refine bJ ?_ GE102.out | refine bJ ?_ GE103.out | refine bJ ?_ GE108.out | refine bJ ?_ GE109.out) | exact HB.out)⟩
      (try clear BK102)
      (try clear BK103)
      (try clear BK108)
      (try clear BK109)
      (try clear HB)
      generalize ((w59.setCell ⟨gb109, 3, none⟩ (.int .i64 a0_3)).setCell ⟨gb109, 4, none⟩ (.bool a0_4)) = w62 at n0_ n1_ n2_ n3_ n4_ ⊢
      have BK102 := n0_
      have BK103 := n1_
      have BK108 := n2_
      have BK109 := n3_
      have HB := n4_
      clear n0_ n1_ n2_ n3_ n4_
      have n0_ := Aside0.mk (bH BK102.out)
      have n1_ := Aside0.mk (bH BK103.out)
      have n2_ := Aside0.mk (bH BK108.out)
      have n3_ := Aside0.mk (bH BK109.out)
      have n4_ := Aside0.mk (bD HB.out)
      clear BK102
      clear BK103
      clear BK108
      clear BK109
      clear HB
      have BK102 := n0_
      have BK103 := n1_
      have BK108 := n2_
      have BK109 := n3_
      have HB := n4_
      clear n0_ n1_ n2_ n3_ n4_
      refine start_ (n := 9) (S := fun w' => w'.cell? ⟨gb108, 0, none⟩ = some (.bool t104) ∧ w'.cell? ⟨gb108, 1, none⟩ = some (.bool true) ∧ w'.cell? ⟨gb108, 2, none⟩ = some (.bool true)) (ds := []) #[false, false, false, false, false, false, false, false, false] (by kernel_rfl) rfl rfl ⟨(bC BK108.out 0).trans rfl, (bC BK108.out 1).trans rfl, (bC BK108.out 2).trans rfl⟩ (fun hHeld => ?_); refine with_tabW stmt_form.tab9 stmt_form.bits9 (fun HT_ HW_ => ?_)
      generalize w62.drew = w63 at BK102 BK103 BK108 BK109 HB hHeld ⊢
      refine bR (i := 1) (N := some 35) (v := ?_) (a' := ?_) #[false, true, false, false, false, false, false, false, false] rfl rfl (bQ HT_.out (by kernel_rfl)) (fun _ _ _ h => h) (Or.inl ⟨by rfl, ?_⟩) ?_ ?_
      rotate_left
      ·intro w'
       go_simp
       with_reducible rfl
      rotate_left
      ·simp only [Act.put, sZ1, sZ2, sZ3, bL, bM]
       rfl
      refine bR (i := 2) (N := some 36) (v := ?_) (a' := ?_) #[false, true, true, false, false, false, false, false, false] rfl rfl (bQ HT_.out (by kernel_rfl)) (fun _ _ _ h => h) (Or.inl ⟨by rfl, ?_⟩) ?_ ?_
      rotate_left
      ·intro w'
       go_simp
       with_reducible rfl
      rotate_left
      ·simp only [Act.put, sZ1, sZ2, sZ3, bL, bM]
       rfl
      refine bR (i := 3) (N := some 37) (v := undef) (a' := ?_) #[false, true, true, true, false, false, false, false, false] rfl rfl (bQ HT_.out (by kernel_rfl)) (fun _ _ _ h => h) (Or.inr ⟨by rfl, rfl⟩) ?_ ?_
      rotate_left
      ·simp only [Act.put, sZ1, sZ2, sZ3, bL, bM]
       rfl
      refine bR (i := 4) (N := some 38) (v := undef) (a' := ?_) #[false, true, true, true, true, false, false, false, false] rfl rfl (bQ HT_.out (by kernel_rfl)) (fun _ _ _ h => h) (Or.inr ⟨by rfl, rfl⟩) ?_ ?_
      rotate_left
      ·simp only [Act.put, sZ1, sZ2, sZ3, bL, bM]
       rfl
      refine bR (i := 5) (N := some 39) (v := undef) (a' := ?_) #[false, true, true, true, true, true, false, false, false] rfl rfl (bQ HT_.out (by kernel_rfl)) (fun _ _ _ h => h) (Or.inr ⟨by rfl, rfl⟩) ?_ ?_
      rotate_left
      ·simp only [Act.put, sZ1, sZ2, sZ3, bL, bM]
       rfl
      refine bR (i := 6) (N := some 40) (v := ?_) (a' := ?_) #[false, true, true, true, true, true, true, false, false] rfl rfl (bQ HT_.out (by kernel_rfl)) (fun _ _ _ h => h) (Or.inl ⟨by rfl, ?_⟩) ?_ ?_
      rotate_left
      ·intro w'
       go_simp
       with_reducible rfl
      rotate_left
      ·simp only [Act.put, sZ1, sZ2, sZ3, bL, bM]
       rfl
      refine take_ (i := 0) (N := some 34) (v := ?_) (a' := ?_) #[true, true, true, true, true, true, true, false, false] rfl rfl (bX HT_.out HW_.out (by kernel_rfl)) (fun _ _ _ h => h) (Or.inl ⟨by rfl, ?_⟩) hHeld ?_ ?_
      rotate_left
      ·rintro w' ⟨s0, s1, s2⟩
       go_simp
       with_reducible rfl
      rotate_left
      ·simp only [Act.put, sZ1, sZ2, sZ3, bL, bM]
       rfl
      refine one_ (i := 7) (N := none) #[true, true, true, true, true, true, true, true, false] rfl rfl (one_of HT_.out (by kernel_rfl)) (by decide) (fun K hK => ?_)
      have hs64 : w63.cell? ⟨gb103, 0, none⟩ = some (.bool false) := (bC BK103.out 0).trans rfl
      have hfs64 := bB BK103.out 0
      have hns64_0 := NB102_103.out
      have hns64_2 := NB108_103.out
      have hns64_3 := NB109_103.out
      have hms64_0 := NB103_102.out
      have hms64_2 := NB103_108.out
      have hms64_3 := NB103_109.out
      have hs65 : w63.cell? ⟨gb103, 1, none⟩ = some (.bool false) := (bC BK103.out 1).trans rfl
      have hfs65 := bB BK103.out 1
      have hns65_0 := NB102_103.out
      have hns65_2 := NB108_103.out
      have hns65_3 := NB109_103.out
      have hms65_0 := NB103_102.out
      have hms65_2 := NB103_108.out
      have hms65_3 := NB103_109.out
      have hs66 : w63.cell? ⟨gb103, 2, none⟩ = some (.bool false) := (bC BK103.out 2).trans rfl
      have hfs66 := bB BK103.out 2
      have hns66_0 := NB102_103.out
      have hns66_2 := NB108_103.out
      have hns66_3 := NB109_103.out
      have hms66_0 := NB103_102.out
      have hms66_2 := NB103_108.out
      have hms66_3 := NB103_109.out
      refine skip_ (w1 := ?_) (by rfl) rfl ?_ ?_
      rotate_left
      ·go_simp
       rfl
      refine hK.out _ _ ⟨((bN (p := ⟨gb103, _, none⟩) NB108_103.out _).trans (((bN (p := ⟨gb103, _, none⟩) NB108_103.out _).trans (((bN (p := ⟨gb103, _, none⟩) NB108_103.out _).trans (hHeld.1)))))), ((bN (p := ⟨gb103, _, none⟩) NB108_103.out _).trans (((bN (p := ⟨gb103, _, none⟩) NB108_103.out _).trans (((bN (p := ⟨gb103, _, none⟩) NB108_103.out _).trans (hHeld.2.1)))))), ((bN (p := ⟨gb103, _, none⟩) NB108_103.out _).trans (((bN (p := ⟨gb103, _, none⟩) NB108_103.out _).trans (((bN (p := ⟨gb103, _, none⟩) NB108_103.out _).trans (hHeld.2.2))))))⟩ (fun hHeld => ?_)
      clear hK K
      refine bR (i := 8) (N := some 3) (v := ?_) (a' := ?_) #[true, true, true, true, true, true, true, true, true] rfl rfl (bQ HT_.out (by kernel_rfl)) (fun _ _ _ h => h) (Or.inl ⟨by rfl, ?_⟩) ?_ ?_
      rotate_left
      ·intro w'
       go_simp
       with_reducible rfl
      rotate_left
      ·simp only [Act.put, sZ1, sZ2, sZ3, bL, bM]
       rfl
      refine done_ (done_of HT_.out (by kernel_rfl)) ?_
      try go_wp2
      refine bodyPost_ret (results_ct rfl _ _ gb103 91 #[.bool t104, .bool true, .bool true] (0, 0) _ rfl (by (with_reducible repeat (first | refine bG ?_ _ | refine bH ?_ | refine bF ?_ _)); refine bY (cs := #[.bool t104, .bool true, .bool false]) ?_ 2 _ rfl; (with_reducible repeat (first | refine bG ?_ _ | refine bH ?_ | refine bF ?_ _)); refine bY (cs := #[.bool t104, .bool false, .bool false]) ?_ 1 _ rfl; (with_reducible repeat (first | refine bG ?_ _ | refine bH ?_ | refine bF ?_ _)); refine bY (cs := #[.bool false, .bool false, .bool false]) ?_ 0 _ rfl; (with_reducible repeat (first | refine bG ?_ _ | refine bH ?_ | refine bF ?_ _)); exact BK103.out) Try.underlying91 rfl (by kernel_rfl)) rfl ?_
      exact ⟨by first | rfl | (simp [errW_none, errW_some] <;> rfl) | (simp [*, errW_none, errW_some] <;> rfl), by repeat (first | (with_reducible first | exact HB.out | apply bE | apply bA | apply bD | refine bJ ?_ GE102.out | refine bJ ?_ GE103.out | refine bJ ?_ GE108.out | refine bJ ?_ GE109.out) | exact HB.out)⟩
    ·replace c29 := Bool.eq_false_iff.mpr c29
     subst c29
     have H1 : (if t107 = true then (some (t104, true, false, (a0_0 == a0_0 && (x110001_2 == a0_1 && (0 == a0_3 && (false == a0_4)))))) else (some (t104, true, false, false))) = some (r1, r2, r3, r4) := by rw [if_neg (show ¬ (false = true) by decide)] at H; exact H
     clear H
     have H := H1
     clear H1
     by_cases c67 : t107 = true
     ·subst c67
      have H1 : (some (t104, true, false, (a0_0 == a0_0 && (x110001_2 == a0_1 && (0 == a0_3 && (false == a0_4)))))) = some (r1, r2, r3, r4) := by rw [if_pos rfl] at H; exact H
      clear H
      have H := H1
      clear H1
      simp only [Option.some.injEq, Prod.mk.injEq] at H
      obtain ⟨rfl, rfl, rfl, rfl⟩ := H
      have hnb68 := NB108_102.out
      have hnc68 := NB102_108.out
      have hnb69 := NB108_103.out
      have hnc69 := NB103_108.out
      have hnb70 := NB108_109.out
      have hnc70 := NB109_108.out
      have hcz71_0 : wc.cell? ⟨gb108, 0, none⟩ = some (.bool t104) := (bC BK108.out 0).trans rfl
      have hcz71_1 : wc.cell? ⟨gb108, 1, none⟩ = some (.bool true) := (bC BK108.out 1).trans rfl
      have hcz71_2 : wc.cell? ⟨gb108, 2, none⟩ = some (.bool false) := (bC BK108.out 2).trans rfl
      have hfz71_0 := bB BK108.out 0
      have hfz71_1 := bB BK108.out 1
      have hfz71_2 := bB BK108.out 2
      have hnb72 := NB102_103.out
      have hnc72 := NB103_102.out
      have hnb73 := NB102_109.out
      have hnc73 := NB109_102.out
      have hcz74_0 : wc.cell? ⟨gb102, 0, none⟩ = some (.int .i64 a0_0) := (bC BK102.out 0).trans rfl
      have hcz74_1 : wc.cell? ⟨gb102, 1, none⟩ = some (.int .i64 a0_1) := (bC BK102.out 1).trans rfl
      have hcz74_2 : wc.cell? ⟨gb102, 2, none⟩ = some (.int .i64 a0_2) := (bC BK102.out 2).trans rfl
      have hcz74_3 : wc.cell? ⟨gb102, 3, none⟩ = some (.int .i64 a0_3) := (bC BK102.out 3).trans rfl
      have hcz74_4 : wc.cell? ⟨gb102, 4, none⟩ = some (.bool a0_4) := (bC BK102.out 4).trans rfl
      have hfz74_0 := bB BK102.out 0
      have hfz74_1 := bB BK102.out 1
      have hfz74_2 := bB BK102.out 2
      have hfz74_3 := bB BK102.out 3
      have hfz74_4 := bB BK102.out 4
      have hnb75 := NB109_103.out
      have hnc75 := NB103_109.out
      have hcz76_0 : wc.cell? ⟨gb109, 0, none⟩ = some (.int .i64 a0_0) := (bC BK109.out 0).trans rfl
      have hcz76_1 : wc.cell? ⟨gb109, 1, none⟩ = some (.int .i64 x110001_2) := (bC BK109.out 1).trans rfl
      have hcz76_2 : wc.cell? ⟨gb109, 2, none⟩ = some (.int .i64 0) := (bC BK109.out 2).trans rfl
      have hcz76_3 : wc.cell? ⟨gb109, 3, none⟩ = some (.int .i64 0) := (bC BK109.out 3).trans rfl
      have hcz76_4 : wc.cell? ⟨gb109, 4, none⟩ = some (.bool false) := (bC BK109.out 4).trans rfl
      have hfz76_0 := bB BK109.out 0
      have hfz76_1 := bB BK109.out 1
      have hfz76_2 := bB BK109.out 2
      have hfz76_3 := bB BK109.out 3
      have hfz76_4 := bB BK109.out 4
      try go_wp2
      have n0_ : Aside0 ((wc.setCell ⟨gb109, 2, none⟩ (.int .i64 a0_2)).heap[gb102]? = some (.cells #[.int .i64 a0_0, .int .i64 a0_1, .int .i64 a0_2, .int .i64 a0_3, .bool a0_4] 23 (0, 0))) := ⟨by (with_reducible repeat (first | refine bG ?_ _ | refine bH ?_ | refine bF ?_ _)); refine bW ?_ NB102_109.out _; (with_reducible repeat (first | refine bG ?_ _ | refine bH ?_ | refine bF ?_ _)); exact BK102.out⟩
      have n1_ : Aside0 ((wc.setCell ⟨gb109, 2, none⟩ (.int .i64 a0_2)).heap[gb103]? = some (.cells #[.bool false, .bool false, .bool false] 91 (0, 0))) := ⟨by (with_reducible repeat (first | refine bG ?_ _ | refine bH ?_ | refine bF ?_ _)); refine bW ?_ NB103_109.out _; (with_reducible repeat (first | refine bG ?_ _ | refine bH ?_ | refine bF ?_ _)); exact BK103.out⟩
      have n2_ : Aside0 ((wc.setCell ⟨gb109, 2, none⟩ (.int .i64 a0_2)).heap[gb108]? = some (.cells #[.bool t104, .bool true, .bool false] 91 (0, 0))) := ⟨by (with_reducible repeat (first | refine bG ?_ _ | refine bH ?_ | refine bF ?_ _)); refine bW ?_ NB108_109.out _; (with_reducible repeat (first | refine bG ?_ _ | refine bH ?_ | refine bF ?_ _)); exact BK108.out⟩
      have n3_ : Aside0 ((wc.setCell ⟨gb109, 2, none⟩ (.int .i64 a0_2)).heap[gb109]? = some (.cells #[.int .i64 a0_0, .int .i64 x110001_2, .int .i64 a0_2, .int .i64 0, .bool false] 23 (0, 0))) := ⟨by (with_reducible repeat (first | refine bG ?_ _ | refine bH ?_ | refine bF ?_ _)); refine bY (cs := #[.int .i64 a0_0, .int .i64 x110001_2, .int .i64 0, .int .i64 0, .bool false]) ?_ 2 _ rfl; (with_reducible repeat (first | refine bG ?_ _ | refine bH ?_ | refine bF ?_ _)); exact BK109.out⟩
      have n4_ : Aside0 (Below w.heap.size w (wc.setCell ⟨gb109, 2, none⟩ (.int .i64 a0_2))) := ⟨by repeat (first | (with_reducible first | exact HB.out | apply bE | apply bA | apply bD | refine bJ ?_ GE102.out | refine bJ ?_ GE103.out | refine bJ ?_ GE108.out | refine bJ ?_ GE109.out) | exact HB.out)⟩
      (try clear BK102)
      (try clear BK103)
      (try clear BK108)
      (try clear BK109)
      (try clear HB)
      generalize (wc.setCell ⟨gb109, 2, none⟩ (.int .i64 a0_2)) = w77 at n0_ n1_ n2_ n3_ n4_ ⊢
      have BK102 := n0_
      have BK103 := n1_
      have BK108 := n2_
      have BK109 := n3_
      have HB := n4_
      clear n0_ n1_ n2_ n3_ n4_
      have n0_ := Aside0.mk (bH BK102.out)
      have n1_ := Aside0.mk (bH BK103.out)
      have n2_ := Aside0.mk (bH BK108.out)
      have n3_ := Aside0.mk (bH BK109.out)
      have n4_ := Aside0.mk (bD HB.out)
      clear BK102
      clear BK103
      clear BK108
      clear BK109
      clear HB
      have BK102 := n0_
      have BK103 := n1_
      have BK108 := n2_
      have BK109 := n3_
      have HB := n4_
      clear n0_ n1_ n2_ n3_ n4_
      refine start_ (n := 9) (S := fun w' => w'.cell? ⟨gb108, 0, none⟩ = some (.bool t104) ∧ w'.cell? ⟨gb108, 1, none⟩ = some (.bool true) ∧ w'.cell? ⟨gb108, 2, none⟩ = some (.bool false) ∧ w'.cell? ⟨gb109, 0, none⟩ = some (.int .i64 a0_0) ∧ w'.cell? ⟨gb109, 1, none⟩ = some (.int .i64 x110001_2) ∧ w'.cell? ⟨gb109, 2, none⟩ = some (.int .i64 a0_2) ∧ w'.cell? ⟨gb109, 3, none⟩ = some (.int .i64 0) ∧ w'.cell? ⟨gb109, 4, none⟩ = some (.bool false) ∧ w'.cell? ⟨gb102, 0, none⟩ = some (.int .i64 a0_0) ∧ w'.cell? ⟨gb102, 1, none⟩ = some (.int .i64 a0_1) ∧ w'.cell? ⟨gb102, 2, none⟩ = some (.int .i64 a0_2) ∧ w'.cell? ⟨gb102, 3, none⟩ = some (.int .i64 a0_3) ∧ w'.cell? ⟨gb102, 4, none⟩ = some (.bool a0_4)) (ds := []) #[false, false, false, false, false, false, false, false, false] (by kernel_rfl) rfl rfl ⟨(bC BK108.out 0).trans rfl, (bC BK108.out 1).trans rfl, (bC BK108.out 2).trans rfl, (bC BK109.out 0).trans rfl, (bC BK109.out 1).trans rfl, (bC BK109.out 2).trans rfl, (bC BK109.out 3).trans rfl, (bC BK109.out 4).trans rfl, (bC BK102.out 0).trans rfl, (bC BK102.out 1).trans rfl, (bC BK102.out 2).trans rfl, (bC BK102.out 3).trans rfl, (bC BK102.out 4).trans rfl⟩ (fun hHeld => ?_); refine with_tabW stmt_form.tab9 stmt_form.bits9 (fun HT_ HW_ => ?_)
      generalize w77.drew = w78 at BK102 BK103 BK108 BK109 HB hHeld ⊢
      refine bR (i := 1) (N := some 35) (v := ?_) (a' := ?_) #[false, true, false, false, false, false, false, false, false] rfl rfl (bQ HT_.out (by kernel_rfl)) (fun _ _ _ h => h) (Or.inl ⟨by rfl, ?_⟩) ?_ ?_
      rotate_left
      ·intro w'
       go_simp
       with_reducible rfl
      rotate_left
      ·simp only [Act.put, sZ1, sZ2, sZ3, bL, bM]
       rfl
      refine bR (i := 2) (N := some 36) (v := ?_) (a' := ?_) #[false, true, true, false, false, false, false, false, false] rfl rfl (bQ HT_.out (by kernel_rfl)) (fun _ _ _ h => h) (Or.inl ⟨by rfl, ?_⟩) ?_ ?_
      rotate_left
      ·intro w'
       go_simp
       with_reducible rfl
      rotate_left
      ·simp only [Act.put, sZ1, sZ2, sZ3, bL, bM]
       rfl
      refine take_ (i := 0) (N := some 34) (v := ?_) (a' := ?_) #[true, true, true, false, false, false, false, false, false] rfl rfl (bX HT_.out HW_.out (by kernel_rfl)) (fun _ _ _ h => h) (Or.inl ⟨by rfl, ?_⟩) hHeld ?_ ?_
      rotate_left
      ·rintro w' ⟨s0, s1, s2, s3, s4, s5, s6, s7, s8, s9, s10, s11, s12⟩
       go_simp
       with_reducible rfl
      rotate_left
      ·simp only [Act.put, sZ1, sZ2, sZ3, bL, bM]
       rfl
      refine take_ (i := 3) (N := some 37) (v := ?_) (a' := ?_) #[true, true, true, true, false, false, false, false, false] rfl rfl (bX HT_.out HW_.out (by kernel_rfl)) (fun _ _ _ h => h) (Or.inl ⟨by rfl, ?_⟩) hHeld ?_ ?_
      rotate_left
      ·rintro w' ⟨s0, s1, s2, s3, s4, s5, s6, s7, s8, s9, s10, s11, s12⟩
       go_simp
       with_reducible rfl
      rotate_left
      ·simp only [Act.put, sZ1, sZ2, sZ3, bL, bM]
       rfl
      refine take_ (i := 4) (N := some 38) (v := ?_) (a' := ?_) #[true, true, true, true, true, false, false, false, false] rfl rfl (bX HT_.out HW_.out (by kernel_rfl)) (fun _ _ _ h => h) (Or.inl ⟨by rfl, ?_⟩) hHeld ?_ ?_
      rotate_left
      ·rintro w' ⟨s0, s1, s2, s3, s4, s5, s6, s7, s8, s9, s10, s11, s12⟩
       go_simp
       with_reducible rfl
      rotate_left
      ·simp only [Act.put, sZ1, sZ2, sZ3, bL, bM]
       rfl
      refine bR (i := 5) (N := some 39) (v := ?_) (a' := ?_) #[true, true, true, true, true, true, false, false, false] rfl rfl (bQ HT_.out (by kernel_rfl)) (fun _ _ _ h => h) (Or.inl ⟨by rfl, ?_⟩) ?_ ?_
      rotate_left
      ·intro w'
       go_simp
       with_reducible rfl
      rotate_left
      ·simp only [Act.put, sZ1, sZ2, sZ3, bL, bM]
       rfl
      refine bR (i := 6) (N := some 40) (v := ?_) (a' := ?_) #[true, true, true, true, true, true, true, false, false] rfl rfl (bQ HT_.out (by kernel_rfl)) (fun _ _ _ h => h) (Or.inl ⟨by rfl, ?_⟩) ?_ ?_
      rotate_left
      ·intro w'
       go_simp
       with_reducible rfl
      rotate_left
      ·simp only [Act.put, sZ1, sZ2, sZ3, bL, bM]
       rfl
      refine one_ (i := 7) (N := none) #[true, true, true, true, true, true, true, true, false] rfl rfl (one_of HT_.out (by kernel_rfl)) (by decide) (fun K hK => ?_)
      have hs79 : w78.cell? ⟨gb103, 0, none⟩ = some (.bool false) := (bC BK103.out 0).trans rfl
      have hfs79 := bB BK103.out 0
      have hns79_0 := NB102_103.out
      have hns79_2 := NB108_103.out
      have hns79_3 := NB109_103.out
      have hms79_0 := NB103_102.out
      have hms79_2 := NB103_108.out
      have hms79_3 := NB103_109.out
      have hs80 : w78.cell? ⟨gb103, 1, none⟩ = some (.bool false) := (bC BK103.out 1).trans rfl
      have hfs80 := bB BK103.out 1
      have hns80_0 := NB102_103.out
      have hns80_2 := NB108_103.out
      have hns80_3 := NB109_103.out
      have hms80_0 := NB103_102.out
      have hms80_2 := NB103_108.out
      have hms80_3 := NB103_109.out
      have hs81 : w78.cell? ⟨gb103, 2, none⟩ = some (.bool false) := (bC BK103.out 2).trans rfl
      have hfs81 := bB BK103.out 2
      have hns81_0 := NB102_103.out
      have hns81_2 := NB108_103.out
      have hns81_3 := NB109_103.out
      have hms81_0 := NB103_102.out
      have hms81_2 := NB103_108.out
      have hms81_3 := NB103_109.out
      refine skip_ (w1 := ?_) (by rfl) rfl ?_ ?_
      rotate_left
      ·go_simp
       rfl
      refine hK.out _ _ ⟨((bN (p := ⟨gb103, _, none⟩) NB108_103.out _).trans (((bN (p := ⟨gb103, _, none⟩) NB108_103.out _).trans (((bN (p := ⟨gb103, _, none⟩) NB108_103.out _).trans (hHeld.1)))))), ((bN (p := ⟨gb103, _, none⟩) NB108_103.out _).trans (((bN (p := ⟨gb103, _, none⟩) NB108_103.out _).trans (((bN (p := ⟨gb103, _, none⟩) NB108_103.out _).trans (hHeld.2.1)))))), ((bN (p := ⟨gb103, _, none⟩) NB108_103.out _).trans (((bN (p := ⟨gb103, _, none⟩) NB108_103.out _).trans (((bN (p := ⟨gb103, _, none⟩) NB108_103.out _).trans (hHeld.2.2.1)))))), ((bN (p := ⟨gb103, _, none⟩) NB109_103.out _).trans (((bN (p := ⟨gb103, _, none⟩) NB109_103.out _).trans (((bN (p := ⟨gb103, _, none⟩) NB109_103.out _).trans (hHeld.2.2.2.1)))))), ((bN (p := ⟨gb103, _, none⟩) NB109_103.out _).trans (((bN (p := ⟨gb103, _, none⟩) NB109_103.out _).trans (((bN (p := ⟨gb103, _, none⟩) NB109_103.out _).trans (hHeld.2.2.2.2.1)))))), ((bN (p := ⟨gb103, _, none⟩) NB109_103.out _).trans (((bN (p := ⟨gb103, _, none⟩) NB109_103.out _).trans (((bN (p := ⟨gb103, _, none⟩) NB109_103.out _).trans (hHeld.2.2.2.2.2.1)))))), ((bN (p := ⟨gb103, _, none⟩) NB109_103.out _).trans (((bN (p := ⟨gb103, _, none⟩) NB109_103.out _).trans (((bN (p := ⟨gb103, _, none⟩) NB109_103.out _).trans (hHeld.2.2.2.2.2.2.1)))))), ((bN (p := ⟨gb103, _, none⟩) NB109_103.out _).trans (((bN (p := ⟨gb103, _, none⟩) NB109_103.out _).trans (((bN (p := ⟨gb103, _, none⟩) NB109_103.out _).trans (hHeld.2.2.2.2.2.2.2.1)))))), ((bN (p := ⟨gb103, _, none⟩) NB102_103.out _).trans (((bN (p := ⟨gb103, _, none⟩) NB102_103.out _).trans (((bN (p := ⟨gb103, _, none⟩) NB102_103.out _).trans (hHeld.2.2.2.2.2.2.2.2.1)))))), ((bN (p := ⟨gb103, _, none⟩) NB102_103.out _).trans (((bN (p := ⟨gb103, _, none⟩) NB102_103.out _).trans (((bN (p := ⟨gb103, _, none⟩) NB102_103.out _).trans (hHeld.2.2.2.2.2.2.2.2.2.1)))))), ((bN (p := ⟨gb103, _, none⟩) NB102_103.out _).trans (((bN (p := ⟨gb103, _, none⟩) NB102_103.out _).trans (((bN (p := ⟨gb103, _, none⟩) NB102_103.out _).trans (hHeld.2.2.2.2.2.2.2.2.2.2.1)))))), ((bN (p := ⟨gb103, _, none⟩) NB102_103.out _).trans (((bN (p := ⟨gb103, _, none⟩) NB102_103.out _).trans (((bN (p := ⟨gb103, _, none⟩) NB102_103.out _).trans (hHeld.2.2.2.2.2.2.2.2.2.2.2.1)))))), ((bN (p := ⟨gb103, _, none⟩) NB102_103.out _).trans (((bN (p := ⟨gb103, _, none⟩) NB102_103.out _).trans (((bN (p := ⟨gb103, _, none⟩) NB102_103.out _).trans (hHeld.2.2.2.2.2.2.2.2.2.2.2.2))))))⟩ (fun hHeld => ?_)
      clear hK K
      refine bR (i := 8) (N := some 3) (v := ?_) (a' := ?_) #[true, true, true, true, true, true, true, true, true] rfl rfl (bQ HT_.out (by kernel_rfl)) (fun _ _ _ h => h) (Or.inl ⟨by rfl, ?_⟩) ?_ ?_
      rotate_left
      ·intro w'
       go_simp
       with_reducible rfl
      rotate_left
      ·simp only [Act.put, sZ1, sZ2, sZ3, bL, bM]
       rfl
      refine done_ (done_of HT_.out (by kernel_rfl)) ?_
      try go_wp2
      refine bodyPost_ret (results_ct rfl _ _ gb103 91 #[.bool t104, .bool true, .bool false] (0, 0) _ rfl (by (with_reducible repeat (first | refine bG ?_ _ | refine bH ?_ | refine bF ?_ _)); refine bY (cs := #[.bool t104, .bool true, .bool false]) ?_ 2 _ rfl; (with_reducible repeat (first | refine bG ?_ _ | refine bH ?_ | refine bF ?_ _)); refine bY (cs := #[.bool t104, .bool false, .bool false]) ?_ 1 _ rfl; (with_reducible repeat (first | refine bG ?_ _ | refine bH ?_ | refine bF ?_ _)); refine bY (cs := #[.bool false, .bool false, .bool false]) ?_ 0 _ rfl; (with_reducible repeat (first | refine bG ?_ _ | refine bH ?_ | refine bF ?_ _)); exact BK103.out) Try.underlying91 rfl (by kernel_rfl)) rfl ?_
      exact ⟨by first | rfl | (simp [errW_none, errW_some] <;> rfl) | (simp [*, errW_none, errW_some] <;> rfl), by repeat (first | (with_reducible first | exact HB.out | apply bE | apply bA | apply bD | refine bJ ?_ GE102.out | refine bJ ?_ GE103.out | refine bJ ?_ GE108.out | refine bJ ?_ GE109.out) | exact HB.out)⟩
     ·replace c67 := Bool.eq_false_iff.mpr c67
      subst c67
      have H1 : (some (t104, true, false, false)) = some (r1, r2, r3, r4) := by rw [if_neg (show ¬ (false = true) by decide)] at H; exact H
      clear H
      have H := H1
      clear H1
      simp only [Option.some.injEq, Prod.mk.injEq] at H
      obtain ⟨rfl, rfl, rfl, rfl⟩ := H
      have hnb82 := NB108_102.out
      have hnc82 := NB102_108.out
      have hnb83 := NB108_103.out
      have hnc83 := NB103_108.out
      have hnb84 := NB108_109.out
      have hnc84 := NB109_108.out
      have hcz85_0 : wc.cell? ⟨gb108, 0, none⟩ = some (.bool t104) := (bC BK108.out 0).trans rfl
      have hcz85_1 : wc.cell? ⟨gb108, 1, none⟩ = some (.bool true) := (bC BK108.out 1).trans rfl
      have hcz85_2 : wc.cell? ⟨gb108, 2, none⟩ = some (.bool false) := (bC BK108.out 2).trans rfl
      have hfz85_0 := bB BK108.out 0
      have hfz85_1 := bB BK108.out 1
      have hfz85_2 := bB BK108.out 2
      have hnb86 := NB102_103.out
      have hnc86 := NB103_102.out
      have hnb87 := NB102_109.out
      have hnc87 := NB109_102.out
      have hcz88_0 : wc.cell? ⟨gb102, 0, none⟩ = some (.int .i64 a0_0) := (bC BK102.out 0).trans rfl
      have hcz88_1 : wc.cell? ⟨gb102, 1, none⟩ = some (.int .i64 a0_1) := (bC BK102.out 1).trans rfl
      have hcz88_2 : wc.cell? ⟨gb102, 2, none⟩ = some (.int .i64 a0_2) := (bC BK102.out 2).trans rfl
      have hcz88_3 : wc.cell? ⟨gb102, 3, none⟩ = some (.int .i64 a0_3) := (bC BK102.out 3).trans rfl
      have hcz88_4 : wc.cell? ⟨gb102, 4, none⟩ = some (.bool a0_4) := (bC BK102.out 4).trans rfl
      have hfz88_0 := bB BK102.out 0
      have hfz88_1 := bB BK102.out 1
      have hfz88_2 := bB BK102.out 2
      have hfz88_3 := bB BK102.out 3
      have hfz88_4 := bB BK102.out 4
      have hnb89 := NB109_103.out
      have hnc89 := NB103_109.out
      have hcz90_0 : wc.cell? ⟨gb109, 0, none⟩ = some (.int .i64 a0_0) := (bC BK109.out 0).trans rfl
      have hcz90_1 : wc.cell? ⟨gb109, 1, none⟩ = some (.int .i64 x110001_2) := (bC BK109.out 1).trans rfl
      have hcz90_2 : wc.cell? ⟨gb109, 2, none⟩ = some (.int .i64 0) := (bC BK109.out 2).trans rfl
      have hcz90_3 : wc.cell? ⟨gb109, 3, none⟩ = some (.int .i64 0) := (bC BK109.out 3).trans rfl
      have hcz90_4 : wc.cell? ⟨gb109, 4, none⟩ = some (.bool false) := (bC BK109.out 4).trans rfl
      have hfz90_0 := bB BK109.out 0
      have hfz90_1 := bB BK109.out 1
      have hfz90_2 := bB BK109.out 2
      have hfz90_3 := bB BK109.out 3
      have hfz90_4 := bB BK109.out 4
      try go_wp2
      have n0_ : Aside0 ((wc.setCell ⟨gb109, 2, none⟩ (.int .i64 a0_2)).heap[gb102]? = some (.cells #[.int .i64 a0_0, .int .i64 a0_1, .int .i64 a0_2, .int .i64 a0_3, .bool a0_4] 23 (0, 0))) := ⟨by (with_reducible repeat (first | refine bG ?_ _ | refine bH ?_ | refine bF ?_ _)); refine bW ?_ NB102_109.out _; (with_reducible repeat (first | refine bG ?_ _ | refine bH ?_ | refine bF ?_ _)); exact BK102.out⟩
      have n1_ : Aside0 ((wc.setCell ⟨gb109, 2, none⟩ (.int .i64 a0_2)).heap[gb103]? = some (.cells #[.bool false, .bool false, .bool false] 91 (0, 0))) := ⟨by (with_reducible repeat (first | refine bG ?_ _ | refine bH ?_ | refine bF ?_ _)); refine bW ?_ NB103_109.out _; (with_reducible repeat (first | refine bG ?_ _ | refine bH ?_ | refine bF ?_ _)); exact BK103.out⟩
      have n2_ : Aside0 ((wc.setCell ⟨gb109, 2, none⟩ (.int .i64 a0_2)).heap[gb108]? = some (.cells #[.bool t104, .bool true, .bool false] 91 (0, 0))) := ⟨by (with_reducible repeat (first | refine bG ?_ _ | refine bH ?_ | refine bF ?_ _)); refine bW ?_ NB108_109.out _; (with_reducible repeat (first | refine bG ?_ _ | refine bH ?_ | refine bF ?_ _)); exact BK108.out⟩
      have n3_ : Aside0 ((wc.setCell ⟨gb109, 2, none⟩ (.int .i64 a0_2)).heap[gb109]? = some (.cells #[.int .i64 a0_0, .int .i64 x110001_2, .int .i64 a0_2, .int .i64 0, .bool false] 23 (0, 0))) := ⟨by (with_reducible repeat (first | refine bG ?_ _ | refine bH ?_ | refine bF ?_ _)); refine bY (cs := #[.int .i64 a0_0, .int .i64 x110001_2, .int .i64 0, .int .i64 0, .bool false]) ?_ 2 _ rfl; (with_reducible repeat (first | refine bG ?_ _ | refine bH ?_ | refine bF ?_ _)); exact BK109.out⟩
      have n4_ : Aside0 (Below w.heap.size w (wc.setCell ⟨gb109, 2, none⟩ (.int .i64 a0_2))) := ⟨by repeat (first | (with_reducible first | exact HB.out | apply bE | apply bA | apply bD | refine bJ ?_ GE102.out | refine bJ ?_ GE103.out | refine bJ ?_ GE108.out | refine bJ ?_ GE109.out) | exact HB.out)⟩
      (try clear BK102)
      (try clear BK103)
      (try clear BK108)
      (try clear BK109)
      (try clear HB)
      generalize (wc.setCell ⟨gb109, 2, none⟩ (.int .i64 a0_2)) = w91 at n0_ n1_ n2_ n3_ n4_ ⊢
      have BK102 := n0_
      have BK103 := n1_
      have BK108 := n2_
      have BK109 := n3_
      have HB := n4_
      clear n0_ n1_ n2_ n3_ n4_
      have n0_ := Aside0.mk (bH BK102.out)
      have n1_ := Aside0.mk (bH BK103.out)
      have n2_ := Aside0.mk (bH BK108.out)
      have n3_ := Aside0.mk (bH BK109.out)
      have n4_ := Aside0.mk (bD HB.out)
      clear BK102
      clear BK103
      clear BK108
      clear BK109
      clear HB
      have BK102 := n0_
      have BK103 := n1_
      have BK108 := n2_
      have BK109 := n3_
      have HB := n4_
      clear n0_ n1_ n2_ n3_ n4_
      refine start_ (n := 9) (S := fun w' => w'.cell? ⟨gb108, 0, none⟩ = some (.bool t104) ∧ w'.cell? ⟨gb108, 1, none⟩ = some (.bool true) ∧ w'.cell? ⟨gb108, 2, none⟩ = some (.bool false)) (ds := []) #[false, false, false, false, false, false, false, false, false] (by kernel_rfl) rfl rfl ⟨(bC BK108.out 0).trans rfl, (bC BK108.out 1).trans rfl, (bC BK108.out 2).trans rfl⟩ (fun hHeld => ?_); refine with_tabW stmt_form.tab9 stmt_form.bits9 (fun HT_ HW_ => ?_)
      generalize w91.drew = w92 at BK102 BK103 BK108 BK109 HB hHeld ⊢
      refine bR (i := 1) (N := some 35) (v := ?_) (a' := ?_) #[false, true, false, false, false, false, false, false, false] rfl rfl (bQ HT_.out (by kernel_rfl)) (fun _ _ _ h => h) (Or.inl ⟨by rfl, ?_⟩) ?_ ?_
      rotate_left
      ·intro w'
       go_simp
       with_reducible rfl
      rotate_left
      ·simp only [Act.put, sZ1, sZ2, sZ3, bL, bM]
       rfl
      refine bR (i := 2) (N := some 36) (v := ?_) (a' := ?_) #[false, true, true, false, false, false, false, false, false] rfl rfl (bQ HT_.out (by kernel_rfl)) (fun _ _ _ h => h) (Or.inl ⟨by rfl, ?_⟩) ?_ ?_
      rotate_left
      ·intro w'
       go_simp
       with_reducible rfl
      rotate_left
      ·simp only [Act.put, sZ1, sZ2, sZ3, bL, bM]
       rfl
      refine bR (i := 3) (N := some 37) (v := undef) (a' := ?_) #[false, true, true, true, false, false, false, false, false] rfl rfl (bQ HT_.out (by kernel_rfl)) (fun _ _ _ h => h) (Or.inr ⟨by rfl, rfl⟩) ?_ ?_
      rotate_left
      ·simp only [Act.put, sZ1, sZ2, sZ3, bL, bM]
       rfl
      refine bR (i := 4) (N := some 38) (v := undef) (a' := ?_) #[false, true, true, true, true, false, false, false, false] rfl rfl (bQ HT_.out (by kernel_rfl)) (fun _ _ _ h => h) (Or.inr ⟨by rfl, rfl⟩) ?_ ?_
      rotate_left
      ·simp only [Act.put, sZ1, sZ2, sZ3, bL, bM]
       rfl
      refine bR (i := 5) (N := some 39) (v := undef) (a' := ?_) #[false, true, true, true, true, true, false, false, false] rfl rfl (bQ HT_.out (by kernel_rfl)) (fun _ _ _ h => h) (Or.inr ⟨by rfl, rfl⟩) ?_ ?_
      rotate_left
      ·simp only [Act.put, sZ1, sZ2, sZ3, bL, bM]
       rfl
      refine bR (i := 6) (N := some 40) (v := ?_) (a' := ?_) #[false, true, true, true, true, true, true, false, false] rfl rfl (bQ HT_.out (by kernel_rfl)) (fun _ _ _ h => h) (Or.inl ⟨by rfl, ?_⟩) ?_ ?_
      rotate_left
      ·intro w'
       go_simp
       with_reducible rfl
      rotate_left
      ·simp only [Act.put, sZ1, sZ2, sZ3, bL, bM]
       rfl
      refine take_ (i := 0) (N := some 34) (v := ?_) (a' := ?_) #[true, true, true, true, true, true, true, false, false] rfl rfl (bX HT_.out HW_.out (by kernel_rfl)) (fun _ _ _ h => h) (Or.inl ⟨by rfl, ?_⟩) hHeld ?_ ?_
      rotate_left
      ·rintro w' ⟨s0, s1, s2⟩
       go_simp
       with_reducible rfl
      rotate_left
      ·simp only [Act.put, sZ1, sZ2, sZ3, bL, bM]
       rfl
      refine one_ (i := 7) (N := none) #[true, true, true, true, true, true, true, true, false] rfl rfl (one_of HT_.out (by kernel_rfl)) (by decide) (fun K hK => ?_)
      have hs93 : w92.cell? ⟨gb103, 0, none⟩ = some (.bool false) := (bC BK103.out 0).trans rfl
      have hfs93 := bB BK103.out 0
      have hns93_0 := NB102_103.out
      have hns93_2 := NB108_103.out
      have hns93_3 := NB109_103.out
      have hms93_0 := NB103_102.out
      have hms93_2 := NB103_108.out
      have hms93_3 := NB103_109.out
      have hs94 : w92.cell? ⟨gb103, 1, none⟩ = some (.bool false) := (bC BK103.out 1).trans rfl
      have hfs94 := bB BK103.out 1
      have hns94_0 := NB102_103.out
      have hns94_2 := NB108_103.out
      have hns94_3 := NB109_103.out
      have hms94_0 := NB103_102.out
      have hms94_2 := NB103_108.out
      have hms94_3 := NB103_109.out
      have hs95 : w92.cell? ⟨gb103, 2, none⟩ = some (.bool false) := (bC BK103.out 2).trans rfl
      have hfs95 := bB BK103.out 2
      have hns95_0 := NB102_103.out
      have hns95_2 := NB108_103.out
      have hns95_3 := NB109_103.out
      have hms95_0 := NB103_102.out
      have hms95_2 := NB103_108.out
      have hms95_3 := NB103_109.out
      refine skip_ (w1 := ?_) (by rfl) rfl ?_ ?_
      rotate_left
      ·go_simp
       rfl
      refine hK.out _ _ ⟨((bN (p := ⟨gb103, _, none⟩) NB108_103.out _).trans (((bN (p := ⟨gb103, _, none⟩) NB108_103.out _).trans (((bN (p := ⟨gb103, _, none⟩) NB108_103.out _).trans (hHeld.1)))))), ((bN (p := ⟨gb103, _, none⟩) NB108_103.out _).trans (((bN (p := ⟨gb103, _, none⟩) NB108_103.out _).trans (((bN (p := ⟨gb103, _, none⟩) NB108_103.out _).trans (hHeld.2.1)))))), ((bN (p := ⟨gb103, _, none⟩) NB108_103.out _).trans (((bN (p := ⟨gb103, _, none⟩) NB108_103.out _).trans (((bN (p := ⟨gb103, _, none⟩) NB108_103.out _).trans (hHeld.2.2))))))⟩ (fun hHeld => ?_)
      clear hK K
      refine bR (i := 8) (N := some 3) (v := ?_) (a' := ?_) #[true, true, true, true, true, true, true, true, true] rfl rfl (bQ HT_.out (by kernel_rfl)) (fun _ _ _ h => h) (Or.inl ⟨by rfl, ?_⟩) ?_ ?_
      rotate_left
      ·intro w'
       go_simp
       with_reducible rfl
      rotate_left
      ·simp only [Act.put, sZ1, sZ2, sZ3, bL, bM]
       rfl
      refine done_ (done_of HT_.out (by kernel_rfl)) ?_
      try go_wp2
      refine bodyPost_ret (results_ct rfl _ _ gb103 91 #[.bool t104, .bool true, .bool false] (0, 0) _ rfl (by (with_reducible repeat (first | refine bG ?_ _ | refine bH ?_ | refine bF ?_ _)); refine bY (cs := #[.bool t104, .bool true, .bool false]) ?_ 2 _ rfl; (with_reducible repeat (first | refine bG ?_ _ | refine bH ?_ | refine bF ?_ _)); refine bY (cs := #[.bool t104, .bool false, .bool false]) ?_ 1 _ rfl; (with_reducible repeat (first | refine bG ?_ _ | refine bH ?_ | refine bF ?_ _)); refine bY (cs := #[.bool false, .bool false, .bool false]) ?_ 0 _ rfl; (with_reducible repeat (first | refine bG ?_ _ | refine bH ?_ | refine bF ?_ _)); exact BK103.out) Try.underlying91 rfl (by kernel_rfl)) rfl ?_
      exact ⟨by first | rfl | (simp [errW_none, errW_some] <;> rfl) | (simp [*, errW_none, errW_some] <;> rfl), by repeat (first | (with_reducible first | exact HB.out | apply bE | apply bA | apply bD | refine bJ ?_ GE102.out | refine bJ ?_ GE103.out | refine bJ ?_ GE108.out | refine bJ ?_ GE109.out) | exact HB.out)⟩
   ·replace c28 := Bool.eq_false_iff.mpr c28
    subst c28
    have H1 : (if t106 = true then (if t107 = true then (some (t104, false, t106, (a0_0 == a0_0 && (x110001_2 == a0_1 && (0 == a0_2))))) else (some (t104, false, t106, false))) else (if t107 = true then (some (t104, false, t106, (a0_0 == a0_0 && (x110001_2 == a0_1 && (0 == a0_2 && (0 == a0_3 && (false == a0_4))))))) else (some (t104, false, t106, false)))) = some (r1, r2, r3, r4) := by rw [if_neg (show ¬ (false = true) by decide)] at H; exact H
    clear H
    have H := H1
    clear H1
    by_cases c96 : t106 = true
    ·subst c96
     have H1 : (if t107 = true then (some (t104, false, true, (a0_0 == a0_0 && (x110001_2 == a0_1 && (0 == a0_2))))) else (some (t104, false, true, false))) = some (r1, r2, r3, r4) := by rw [if_pos rfl] at H; exact H
     clear H
     have H := H1
     clear H1
     by_cases c97 : t107 = true
     ·subst c97
      have H1 : (some (t104, false, true, (a0_0 == a0_0 && (x110001_2 == a0_1 && (0 == a0_2))))) = some (r1, r2, r3, r4) := by rw [if_pos rfl] at H; exact H
      clear H
      have H := H1
      clear H1
      simp only [Option.some.injEq, Prod.mk.injEq] at H
      obtain ⟨rfl, rfl, rfl, rfl⟩ := H
      have hnb98 := NB108_102.out
      have hnc98 := NB102_108.out
      have hnb99 := NB108_103.out
      have hnc99 := NB103_108.out
      have hnb100 := NB108_109.out
      have hnc100 := NB109_108.out
      have hcz101_0 : wc.cell? ⟨gb108, 0, none⟩ = some (.bool t104) := (bC BK108.out 0).trans rfl
      have hcz101_1 : wc.cell? ⟨gb108, 1, none⟩ = some (.bool false) := (bC BK108.out 1).trans rfl
      have hcz101_2 : wc.cell? ⟨gb108, 2, none⟩ = some (.bool true) := (bC BK108.out 2).trans rfl
      have hfz101_0 := bB BK108.out 0
      have hfz101_1 := bB BK108.out 1
      have hfz101_2 := bB BK108.out 2
      try go_wp2
      have n0_ := Aside0.mk (bH BK102.out)
      have n1_ := Aside0.mk (bH BK103.out)
      have n2_ := Aside0.mk (bH BK108.out)
      have n3_ := Aside0.mk (bH BK109.out)
      have n4_ := Aside0.mk (bD HB.out)
      clear BK102
      clear BK103
      clear BK108
      clear BK109
      clear HB
      have BK102 := n0_
      have BK103 := n1_
      have BK108 := n2_
      have BK109 := n3_
      have HB := n4_
      clear n0_ n1_ n2_ n3_ n4_
      refine start_ (n := 8) (S := fun w' => w'.cell? ⟨gb102, 0, none⟩ = some (.int .i64 a0_0) ∧ w'.cell? ⟨gb102, 1, none⟩ = some (.int .i64 a0_1) ∧ w'.cell? ⟨gb102, 2, none⟩ = some (.int .i64 a0_2) ∧ w'.cell? ⟨gb102, 3, none⟩ = some (.int .i64 a0_3) ∧ w'.cell? ⟨gb102, 4, none⟩ = some (.bool a0_4)) (ds := []) #[false, false, false, false, false, false, false, false] (by kernel_rfl) rfl rfl ⟨(bC BK102.out 0).trans rfl, (bC BK102.out 1).trans rfl, (bC BK102.out 2).trans rfl, (bC BK102.out 3).trans rfl, (bC BK102.out 4).trans rfl⟩ (fun hHeld => ?_); refine with_tabW stmt_form.tab8 stmt_form.bits8 (fun HT_ HW_ => ?_)
      generalize wc.drew = w102 at BK102 BK103 BK108 BK109 HB hHeld ⊢
      refine bR (i := 0) (N := some 28) (v := ?_) (a' := ?_) #[true, false, false, false, false, false, false, false] rfl rfl (bQ HT_.out (by kernel_rfl)) (fun _ _ _ h => h) (Or.inl ⟨by rfl, ?_⟩) ?_ ?_
      rotate_left
      ·intro w'
       go_simp
       with_reducible rfl
      rotate_left
      ·simp only [Act.put, sZ1, sZ2, sZ3, bL, bM]
       rfl
      refine bR (i := 2) (N := some 30) (v := ?_) (a' := ?_) #[true, false, true, false, false, false, false, false] rfl rfl (bQ HT_.out (by kernel_rfl)) (fun _ _ _ h => h) (Or.inl ⟨by rfl, ?_⟩) ?_ ?_
      rotate_left
      ·intro w'
       go_simp
       with_reducible rfl
      rotate_left
      ·simp only [Act.put, sZ1, sZ2, sZ3, bL, bM]
       rfl
      refine take_ (i := 1) (N := some 29) (v := ?_) (a' := ?_) #[true, true, true, false, false, false, false, false] rfl rfl (bX HT_.out HW_.out (by kernel_rfl)) (fun _ _ _ h => h) (Or.inl ⟨by rfl, ?_⟩) hHeld ?_ ?_
      rotate_left
      ·rintro w' ⟨s0, s1, s2, s3, s4⟩
       go_simp
       with_reducible rfl
      rotate_left
      ·simp only [Act.put, sZ1, sZ2, sZ3, bL, bM]
       rfl
      refine bR (i := 4) (N := some 32) (v := ?_) (a' := ?_) #[true, true, true, false, true, false, false, false] rfl rfl (bQ HT_.out (by kernel_rfl)) (fun _ _ _ h => h) (Or.inl ⟨by rfl, ?_⟩) ?_ ?_
      rotate_left
      ·intro w'
       go_simp
       with_reducible rfl
      rotate_left
      ·simp only [Act.put, sZ1, sZ2, sZ3, bL, bM]
       rfl
      refine take_ (i := 3) (N := some 31) (v := ?_) (a' := ?_) #[true, true, true, true, true, false, false, false] rfl rfl (bX HT_.out HW_.out (by kernel_rfl)) (fun _ _ _ h => h) (Or.inl ⟨by rfl, ?_⟩) hHeld ?_ ?_
      rotate_left
      ·rintro w' ⟨s0, s1, s2, s3, s4⟩
       go_simp
       with_reducible rfl
      rotate_left
      ·simp only [Act.put, sZ1, sZ2, sZ3, bL, bM]
       rfl
      refine one_ (i := 5) (N := none) #[true, true, true, true, true, true, false, false] rfl rfl (one_of HT_.out (by kernel_rfl)) (by decide) (fun K hK => ?_)
      have hs103 : w102.cell? ⟨gb109, 3, none⟩ = some (.int .i64 0) := (bC BK109.out 3).trans rfl
      have hfs103 := bB BK109.out 3
      have hns103_0 := NB102_109.out
      have hns103_1 := NB103_109.out
      have hns103_2 := NB108_109.out
      have hms103_0 := NB109_102.out
      have hms103_1 := NB109_103.out
      have hms103_2 := NB109_108.out
      refine skip_ (w1 := ?_) (by rfl) rfl ?_ ?_
      rotate_left
      ·go_simp
       rfl
      refine hK.out _ _ ⟨((bN (p := ⟨gb109, _, none⟩) NB102_109.out _).trans (hHeld.1)), ((bN (p := ⟨gb109, _, none⟩) NB102_109.out _).trans (hHeld.2.1)), ((bN (p := ⟨gb109, _, none⟩) NB102_109.out _).trans (hHeld.2.2.1)), ((bN (p := ⟨gb109, _, none⟩) NB102_109.out _).trans (hHeld.2.2.2.1)), ((bN (p := ⟨gb109, _, none⟩) NB102_109.out _).trans (hHeld.2.2.2.2))⟩ (fun hHeld => ?_)
      clear hK K
      refine bR (i := 6) (N := some 33) (v := ?_) (a' := ?_) #[true, true, true, true, true, true, true, false] rfl rfl (bQ HT_.out (by kernel_rfl)) (fun _ _ _ h => h) (Or.inl ⟨by rfl, ?_⟩) ?_ ?_
      rotate_left
      ·intro w'
       go_simp
       with_reducible rfl
      rotate_left
      ·simp only [Act.put, sZ1, sZ2, sZ3, bL, bM]
       rfl
      refine one_ (i := 7) (N := none) #[true, true, true, true, true, true, true, true] rfl rfl (one_of HT_.out (by kernel_rfl)) (by decide) (fun K hK => ?_)
      have hs104 : w102.cell? ⟨gb109, 4, none⟩ = some (.bool false) := (bC BK109.out 4).trans rfl
      have hfs104 := bB BK109.out 4
      have hns104_0 := NB102_109.out
      have hns104_1 := NB103_109.out
      have hns104_2 := NB108_109.out
      have hms104_0 := NB109_102.out
      have hms104_1 := NB109_103.out
      have hms104_2 := NB109_108.out
      refine skip_ (w1 := ?_) (by rfl) rfl ?_ ?_
      rotate_left
      ·go_simp
       rfl
      refine hK.out _ _ ⟨((bN (p := ⟨gb109, _, none⟩) NB102_109.out _).trans (hHeld.1)), ((bN (p := ⟨gb109, _, none⟩) NB102_109.out _).trans (hHeld.2.1)), ((bN (p := ⟨gb109, _, none⟩) NB102_109.out _).trans (hHeld.2.2.1)), ((bN (p := ⟨gb109, _, none⟩) NB102_109.out _).trans (hHeld.2.2.2.1)), ((bN (p := ⟨gb109, _, none⟩) NB102_109.out _).trans (hHeld.2.2.2.2))⟩ (fun hHeld => ?_)
      clear hK K
      refine done_ (done_of HT_.out (by kernel_rfl)) ?_
      try go_wp2
      have n0_ : Aside0 (((w102.setCell ⟨gb109, 3, none⟩ (.int .i64 a0_3)).setCell ⟨gb109, 4, none⟩ (.bool a0_4)).heap[gb102]? = some (.cells #[.int .i64 a0_0, .int .i64 a0_1, .int .i64 a0_2, .int .i64 a0_3, .bool a0_4] 23 (0, 0))) := ⟨by (with_reducible repeat (first | refine bG ?_ _ | refine bH ?_ | refine bF ?_ _)); refine bW ?_ NB102_109.out _; (with_reducible repeat (first | refine bG ?_ _ | refine bH ?_ | refine bF ?_ _)); refine bW ?_ NB102_109.out _; (with_reducible repeat (first | refine bG ?_ _ | refine bH ?_ | refine bF ?_ _)); exact BK102.out⟩
      have n1_ : Aside0 (((w102.setCell ⟨gb109, 3, none⟩ (.int .i64 a0_3)).setCell ⟨gb109, 4, none⟩ (.bool a0_4)).heap[gb103]? = some (.cells #[.bool false, .bool false, .bool false] 91 (0, 0))) := ⟨by (with_reducible repeat (first | refine bG ?_ _ | refine bH ?_ | refine bF ?_ _)); refine bW ?_ NB103_109.out _; (with_reducible repeat (first | refine bG ?_ _ | refine bH ?_ | refine bF ?_ _)); refine bW ?_ NB103_109.out _; (with_reducible repeat (first | refine bG ?_ _ | refine bH ?_ | refine bF ?_ _)); exact BK103.out⟩
      have n2_ : Aside0 (((w102.setCell ⟨gb109, 3, none⟩ (.int .i64 a0_3)).setCell ⟨gb109, 4, none⟩ (.bool a0_4)).heap[gb108]? = some (.cells #[.bool t104, .bool false, .bool true] 91 (0, 0))) := ⟨by (with_reducible repeat (first | refine bG ?_ _ | refine bH ?_ | refine bF ?_ _)); refine bW ?_ NB108_109.out _; (with_reducible repeat (first | refine bG ?_ _ | refine bH ?_ | refine bF ?_ _)); refine bW ?_ NB108_109.out _; (with_reducible repeat (first | refine bG ?_ _ | refine bH ?_ | refine bF ?_ _)); exact BK108.out⟩
      have n3_ : Aside0 (((w102.setCell ⟨gb109, 3, none⟩ (.int .i64 a0_3)).setCell ⟨gb109, 4, none⟩ (.bool a0_4)).heap[gb109]? = some (.cells #[.int .i64 a0_0, .int .i64 x110001_2, .int .i64 0, .int .i64 a0_3, .bool a0_4] 23 (0, 0))) := ⟨by (with_reducible repeat (first | refine bG ?_ _ | refine bH ?_ | refine bF ?_ _)); refine bY (cs := #[.int .i64 a0_0, .int .i64 x110001_2, .int .i64 0, .int .i64 a0_3, .bool false]) ?_ 4 _ rfl; (with_reducible repeat (first | refine bG ?_ _ | refine bH ?_ | refine bF ?_ _)); refine bY (cs := #[.int .i64 a0_0, .int .i64 x110001_2, .int .i64 0, .int .i64 0, .bool false]) ?_ 3 _ rfl; (with_reducible repeat (first | refine bG ?_ _ | refine bH ?_ | refine bF ?_ _)); exact BK109.out⟩
      have n4_ : Aside0 (Below w.heap.size w ((w102.setCell ⟨gb109, 3, none⟩ (.int .i64 a0_3)).setCell ⟨gb109, 4, none⟩ (.bool a0_4))) := ⟨by repeat (first | (with_reducible first | exact HB.out | apply bE | apply bA | apply bD | refine bJ ?_ GE102.out | refine bJ ?_ GE103.out | refine bJ ?_ GE108.out | refine bJ ?_ GE109.out) | exact HB.out)⟩
      (try clear BK102)
      (try clear BK103)
      (try clear BK108)
      (try clear BK109)
      (try clear HB)
      generalize ((w102.setCell ⟨gb109, 3, none⟩ (.int .i64 a0_3)).setCell ⟨gb109, 4, none⟩ (.bool a0_4)) = w105 at n0_ n1_ n2_ n3_ n4_ ⊢
      have BK102 := n0_
      have BK103 := n1_
      have BK108 := n2_
      have BK109 := n3_
      have HB := n4_
      clear n0_ n1_ n2_ n3_ n4_
      have n0_ := Aside0.mk (bH BK102.out)
      have n1_ := Aside0.mk (bH BK103.out)
      have n2_ := Aside0.mk (bH BK108.out)
      have n3_ := Aside0.mk (bH BK109.out)
      have n4_ := Aside0.mk (bD HB.out)
      clear BK102
      clear BK103
      clear BK108
      clear BK109
      clear HB
      have BK102 := n0_
      have BK103 := n1_
      have BK108 := n2_
      have BK109 := n3_
      have HB := n4_
      clear n0_ n1_ n2_ n3_ n4_
      refine start_ (n := 9) (S := fun w' => w'.cell? ⟨gb108, 0, none⟩ = some (.bool t104) ∧ w'.cell? ⟨gb108, 1, none⟩ = some (.bool false) ∧ w'.cell? ⟨gb108, 2, none⟩ = some (.bool true) ∧ w'.cell? ⟨gb109, 0, none⟩ = some (.int .i64 a0_0) ∧ w'.cell? ⟨gb109, 1, none⟩ = some (.int .i64 x110001_2) ∧ w'.cell? ⟨gb109, 2, none⟩ = some (.int .i64 0) ∧ w'.cell? ⟨gb109, 3, none⟩ = some (.int .i64 a0_3) ∧ w'.cell? ⟨gb109, 4, none⟩ = some (.bool a0_4) ∧ w'.cell? ⟨gb102, 0, none⟩ = some (.int .i64 a0_0) ∧ w'.cell? ⟨gb102, 1, none⟩ = some (.int .i64 a0_1) ∧ w'.cell? ⟨gb102, 2, none⟩ = some (.int .i64 a0_2) ∧ w'.cell? ⟨gb102, 3, none⟩ = some (.int .i64 a0_3) ∧ w'.cell? ⟨gb102, 4, none⟩ = some (.bool a0_4)) (ds := []) #[false, false, false, false, false, false, false, false, false] (by kernel_rfl) rfl rfl ⟨(bC BK108.out 0).trans rfl, (bC BK108.out 1).trans rfl, (bC BK108.out 2).trans rfl, (bC BK109.out 0).trans rfl, (bC BK109.out 1).trans rfl, (bC BK109.out 2).trans rfl, (bC BK109.out 3).trans rfl, (bC BK109.out 4).trans rfl, (bC BK102.out 0).trans rfl, (bC BK102.out 1).trans rfl, (bC BK102.out 2).trans rfl, (bC BK102.out 3).trans rfl, (bC BK102.out 4).trans rfl⟩ (fun hHeld => ?_); refine with_tabW stmt_form.tab9 stmt_form.bits9 (fun HT_ HW_ => ?_)
      generalize w105.drew = w106 at BK102 BK103 BK108 BK109 HB hHeld ⊢
      refine bR (i := 1) (N := some 35) (v := ?_) (a' := ?_) #[false, true, false, false, false, false, false, false, false] rfl rfl (bQ HT_.out (by kernel_rfl)) (fun _ _ _ h => h) (Or.inl ⟨by rfl, ?_⟩) ?_ ?_
      rotate_left
      ·intro w'
       go_simp
       with_reducible rfl
      rotate_left
      ·simp only [Act.put, sZ1, sZ2, sZ3, bL, bM]
       rfl
      refine bR (i := 2) (N := some 36) (v := ?_) (a' := ?_) #[false, true, true, false, false, false, false, false, false] rfl rfl (bQ HT_.out (by kernel_rfl)) (fun _ _ _ h => h) (Or.inl ⟨by rfl, ?_⟩) ?_ ?_
      rotate_left
      ·intro w'
       go_simp
       with_reducible rfl
      rotate_left
      ·simp only [Act.put, sZ1, sZ2, sZ3, bL, bM]
       rfl
      refine take_ (i := 0) (N := some 34) (v := ?_) (a' := ?_) #[true, true, true, false, false, false, false, false, false] rfl rfl (bX HT_.out HW_.out (by kernel_rfl)) (fun _ _ _ h => h) (Or.inl ⟨by rfl, ?_⟩) hHeld ?_ ?_
      rotate_left
      ·rintro w' ⟨s0, s1, s2, s3, s4, s5, s6, s7, s8, s9, s10, s11, s12⟩
       go_simp
       with_reducible rfl
      rotate_left
      ·simp only [Act.put, sZ1, sZ2, sZ3, bL, bM]
       rfl
      refine take_ (i := 3) (N := some 37) (v := ?_) (a' := ?_) #[true, true, true, true, false, false, false, false, false] rfl rfl (bX HT_.out HW_.out (by kernel_rfl)) (fun _ _ _ h => h) (Or.inl ⟨by rfl, ?_⟩) hHeld ?_ ?_
      rotate_left
      ·rintro w' ⟨s0, s1, s2, s3, s4, s5, s6, s7, s8, s9, s10, s11, s12⟩
       go_simp
       with_reducible rfl
      rotate_left
      ·simp only [Act.put, sZ1, sZ2, sZ3, bL, bM]
       rfl
      refine take_ (i := 4) (N := some 38) (v := ?_) (a' := ?_) #[true, true, true, true, true, false, false, false, false] rfl rfl (bX HT_.out HW_.out (by kernel_rfl)) (fun _ _ _ h => h) (Or.inl ⟨by rfl, ?_⟩) hHeld ?_ ?_
      rotate_left
      ·rintro w' ⟨s0, s1, s2, s3, s4, s5, s6, s7, s8, s9, s10, s11, s12⟩
       go_simp
       with_reducible rfl
      rotate_left
      ·simp only [Act.put, sZ1, sZ2, sZ3, bL, bM]
       rfl
      refine bR (i := 5) (N := some 39) (v := ?_) (a' := ?_) #[true, true, true, true, true, true, false, false, false] rfl rfl (bQ HT_.out (by kernel_rfl)) (fun _ _ _ h => h) (Or.inl ⟨by rfl, ?_⟩) ?_ ?_
      rotate_left
      ·intro w'
       go_simp
       with_reducible rfl
      rotate_left
      ·simp only [Act.put, sZ1, sZ2, sZ3, bL, bM]
       rfl
      refine bR (i := 6) (N := some 40) (v := ?_) (a' := ?_) #[true, true, true, true, true, true, true, false, false] rfl rfl (bQ HT_.out (by kernel_rfl)) (fun _ _ _ h => h) (Or.inl ⟨by rfl, ?_⟩) ?_ ?_
      rotate_left
      ·intro w'
       go_simp
       with_reducible rfl
      rotate_left
      ·simp only [Act.put, sZ1, sZ2, sZ3, bL, bM]
       rfl
      refine one_ (i := 7) (N := none) #[true, true, true, true, true, true, true, true, false] rfl rfl (one_of HT_.out (by kernel_rfl)) (by decide) (fun K hK => ?_)
      have hs107 : w106.cell? ⟨gb103, 0, none⟩ = some (.bool false) := (bC BK103.out 0).trans rfl
      have hfs107 := bB BK103.out 0
      have hns107_0 := NB102_103.out
      have hns107_2 := NB108_103.out
      have hns107_3 := NB109_103.out
      have hms107_0 := NB103_102.out
      have hms107_2 := NB103_108.out
      have hms107_3 := NB103_109.out
      have hs108 : w106.cell? ⟨gb103, 1, none⟩ = some (.bool false) := (bC BK103.out 1).trans rfl
      have hfs108 := bB BK103.out 1
      have hns108_0 := NB102_103.out
      have hns108_2 := NB108_103.out
      have hns108_3 := NB109_103.out
      have hms108_0 := NB103_102.out
      have hms108_2 := NB103_108.out
      have hms108_3 := NB103_109.out
      have hs109 : w106.cell? ⟨gb103, 2, none⟩ = some (.bool false) := (bC BK103.out 2).trans rfl
      have hfs109 := bB BK103.out 2
      have hns109_0 := NB102_103.out
      have hns109_2 := NB108_103.out
      have hns109_3 := NB109_103.out
      have hms109_0 := NB103_102.out
      have hms109_2 := NB103_108.out
      have hms109_3 := NB103_109.out
      refine skip_ (w1 := ?_) (by rfl) rfl ?_ ?_
      rotate_left
      ·go_simp
       rfl
      refine hK.out _ _ ⟨((bN (p := ⟨gb103, _, none⟩) NB108_103.out _).trans (((bN (p := ⟨gb103, _, none⟩) NB108_103.out _).trans (((bN (p := ⟨gb103, _, none⟩) NB108_103.out _).trans (hHeld.1)))))), ((bN (p := ⟨gb103, _, none⟩) NB108_103.out _).trans (((bN (p := ⟨gb103, _, none⟩) NB108_103.out _).trans (((bN (p := ⟨gb103, _, none⟩) NB108_103.out _).trans (hHeld.2.1)))))), ((bN (p := ⟨gb103, _, none⟩) NB108_103.out _).trans (((bN (p := ⟨gb103, _, none⟩) NB108_103.out _).trans (((bN (p := ⟨gb103, _, none⟩) NB108_103.out _).trans (hHeld.2.2.1)))))), ((bN (p := ⟨gb103, _, none⟩) NB109_103.out _).trans (((bN (p := ⟨gb103, _, none⟩) NB109_103.out _).trans (((bN (p := ⟨gb103, _, none⟩) NB109_103.out _).trans (hHeld.2.2.2.1)))))), ((bN (p := ⟨gb103, _, none⟩) NB109_103.out _).trans (((bN (p := ⟨gb103, _, none⟩) NB109_103.out _).trans (((bN (p := ⟨gb103, _, none⟩) NB109_103.out _).trans (hHeld.2.2.2.2.1)))))), ((bN (p := ⟨gb103, _, none⟩) NB109_103.out _).trans (((bN (p := ⟨gb103, _, none⟩) NB109_103.out _).trans (((bN (p := ⟨gb103, _, none⟩) NB109_103.out _).trans (hHeld.2.2.2.2.2.1)))))), ((bN (p := ⟨gb103, _, none⟩) NB109_103.out _).trans (((bN (p := ⟨gb103, _, none⟩) NB109_103.out _).trans (((bN (p := ⟨gb103, _, none⟩) NB109_103.out _).trans (hHeld.2.2.2.2.2.2.1)))))), ((bN (p := ⟨gb103, _, none⟩) NB109_103.out _).trans (((bN (p := ⟨gb103, _, none⟩) NB109_103.out _).trans (((bN (p := ⟨gb103, _, none⟩) NB109_103.out _).trans (hHeld.2.2.2.2.2.2.2.1)))))), ((bN (p := ⟨gb103, _, none⟩) NB102_103.out _).trans (((bN (p := ⟨gb103, _, none⟩) NB102_103.out _).trans (((bN (p := ⟨gb103, _, none⟩) NB102_103.out _).trans (hHeld.2.2.2.2.2.2.2.2.1)))))), ((bN (p := ⟨gb103, _, none⟩) NB102_103.out _).trans (((bN (p := ⟨gb103, _, none⟩) NB102_103.out _).trans (((bN (p := ⟨gb103, _, none⟩) NB102_103.out _).trans (hHeld.2.2.2.2.2.2.2.2.2.1)))))), ((bN (p := ⟨gb103, _, none⟩) NB102_103.out _).trans (((bN (p := ⟨gb103, _, none⟩) NB102_103.out _).trans (((bN (p := ⟨gb103, _, none⟩) NB102_103.out _).trans (hHeld.2.2.2.2.2.2.2.2.2.2.1)))))), ((bN (p := ⟨gb103, _, none⟩) NB102_103.out _).trans (((bN (p := ⟨gb103, _, none⟩) NB102_103.out _).trans (((bN (p := ⟨gb103, _, none⟩) NB102_103.out _).trans (hHeld.2.2.2.2.2.2.2.2.2.2.2.1)))))), ((bN (p := ⟨gb103, _, none⟩) NB102_103.out _).trans (((bN (p := ⟨gb103, _, none⟩) NB102_103.out _).trans (((bN (p := ⟨gb103, _, none⟩) NB102_103.out _).trans (hHeld.2.2.2.2.2.2.2.2.2.2.2.2))))))⟩ (fun hHeld => ?_)
      clear hK K
      refine bR (i := 8) (N := some 3) (v := ?_) (a' := ?_) #[true, true, true, true, true, true, true, true, true] rfl rfl (bQ HT_.out (by kernel_rfl)) (fun _ _ _ h => h) (Or.inl ⟨by rfl, ?_⟩) ?_ ?_
      rotate_left
      ·intro w'
       go_simp
       with_reducible rfl
      rotate_left
      ·simp only [Act.put, sZ1, sZ2, sZ3, bL, bM]
       rfl
      refine done_ (done_of HT_.out (by kernel_rfl)) ?_
      try go_wp2
      refine bodyPost_ret (results_ct rfl _ _ gb103 91 #[.bool t104, .bool false, .bool true] (0, 0) _ rfl (by (with_reducible repeat (first | refine bG ?_ _ | refine bH ?_ | refine bF ?_ _)); refine bY (cs := #[.bool t104, .bool false, .bool false]) ?_ 2 _ rfl; (with_reducible repeat (first | refine bG ?_ _ | refine bH ?_ | refine bF ?_ _)); refine bY (cs := #[.bool t104, .bool false, .bool false]) ?_ 1 _ rfl; (with_reducible repeat (first | refine bG ?_ _ | refine bH ?_ | refine bF ?_ _)); refine bY (cs := #[.bool false, .bool false, .bool false]) ?_ 0 _ rfl; (with_reducible repeat (first | refine bG ?_ _ | refine bH ?_ | refine bF ?_ _)); exact BK103.out) Try.underlying91 rfl (by kernel_rfl)) rfl ?_
      exact ⟨by first | rfl | (simp [errW_none, errW_some] <;> rfl) | (simp [*, errW_none, errW_some] <;> rfl), by repeat (first | (with_reducible first | exact HB.out | apply bE | apply bA | apply bD | refine bJ ?_ GE102.out | refine bJ ?_ GE103.out | refine bJ ?_ GE108.out | refine bJ ?_ GE109.out) | exact HB.out)⟩
     ·replace c97 := Bool.eq_false_iff.mpr c97
      subst c97
      have H1 : (some (t104, false, true, false)) = some (r1, r2, r3, r4) := by rw [if_neg (show ¬ (false = true) by decide)] at H; exact H
      clear H
      have H := H1
      clear H1
      simp only [Option.some.injEq, Prod.mk.injEq] at H
      obtain ⟨rfl, rfl, rfl, rfl⟩ := H
      have hnb110 := NB108_102.out
      have hnc110 := NB102_108.out
      have hnb111 := NB108_103.out
      have hnc111 := NB103_108.out
      have hnb112 := NB108_109.out
      have hnc112 := NB109_108.out
      have hcz113_0 : wc.cell? ⟨gb108, 0, none⟩ = some (.bool t104) := (bC BK108.out 0).trans rfl
      have hcz113_1 : wc.cell? ⟨gb108, 1, none⟩ = some (.bool false) := (bC BK108.out 1).trans rfl
      have hcz113_2 : wc.cell? ⟨gb108, 2, none⟩ = some (.bool true) := (bC BK108.out 2).trans rfl
      have hfz113_0 := bB BK108.out 0
      have hfz113_1 := bB BK108.out 1
      have hfz113_2 := bB BK108.out 2
      try go_wp2
      have n0_ := Aside0.mk (bH BK102.out)
      have n1_ := Aside0.mk (bH BK103.out)
      have n2_ := Aside0.mk (bH BK108.out)
      have n3_ := Aside0.mk (bH BK109.out)
      have n4_ := Aside0.mk (bD HB.out)
      clear BK102
      clear BK103
      clear BK108
      clear BK109
      clear HB
      have BK102 := n0_
      have BK103 := n1_
      have BK108 := n2_
      have BK109 := n3_
      have HB := n4_
      clear n0_ n1_ n2_ n3_ n4_
      refine start_ (n := 8) (S := fun w' => w'.cell? ⟨gb102, 0, none⟩ = some (.int .i64 a0_0) ∧ w'.cell? ⟨gb102, 1, none⟩ = some (.int .i64 a0_1) ∧ w'.cell? ⟨gb102, 2, none⟩ = some (.int .i64 a0_2) ∧ w'.cell? ⟨gb102, 3, none⟩ = some (.int .i64 a0_3) ∧ w'.cell? ⟨gb102, 4, none⟩ = some (.bool a0_4)) (ds := []) #[false, false, false, false, false, false, false, false] (by kernel_rfl) rfl rfl ⟨(bC BK102.out 0).trans rfl, (bC BK102.out 1).trans rfl, (bC BK102.out 2).trans rfl, (bC BK102.out 3).trans rfl, (bC BK102.out 4).trans rfl⟩ (fun hHeld => ?_); refine with_tabW stmt_form.tab8 stmt_form.bits8 (fun HT_ HW_ => ?_)
      generalize wc.drew = w114 at BK102 BK103 BK108 BK109 HB hHeld ⊢
      refine bR (i := 0) (N := some 28) (v := ?_) (a' := ?_) #[true, false, false, false, false, false, false, false] rfl rfl (bQ HT_.out (by kernel_rfl)) (fun _ _ _ h => h) (Or.inl ⟨by rfl, ?_⟩) ?_ ?_
      rotate_left
      ·intro w'
       go_simp
       with_reducible rfl
      rotate_left
      ·simp only [Act.put, sZ1, sZ2, sZ3, bL, bM]
       rfl
      refine bR (i := 2) (N := some 30) (v := ?_) (a' := ?_) #[true, false, true, false, false, false, false, false] rfl rfl (bQ HT_.out (by kernel_rfl)) (fun _ _ _ h => h) (Or.inl ⟨by rfl, ?_⟩) ?_ ?_
      rotate_left
      ·intro w'
       go_simp
       with_reducible rfl
      rotate_left
      ·simp only [Act.put, sZ1, sZ2, sZ3, bL, bM]
       rfl
      refine take_ (i := 1) (N := some 29) (v := ?_) (a' := ?_) #[true, true, true, false, false, false, false, false] rfl rfl (bX HT_.out HW_.out (by kernel_rfl)) (fun _ _ _ h => h) (Or.inl ⟨by rfl, ?_⟩) hHeld ?_ ?_
      rotate_left
      ·rintro w' ⟨s0, s1, s2, s3, s4⟩
       go_simp
       with_reducible rfl
      rotate_left
      ·simp only [Act.put, sZ1, sZ2, sZ3, bL, bM]
       rfl
      refine bR (i := 4) (N := some 32) (v := ?_) (a' := ?_) #[true, true, true, false, true, false, false, false] rfl rfl (bQ HT_.out (by kernel_rfl)) (fun _ _ _ h => h) (Or.inl ⟨by rfl, ?_⟩) ?_ ?_
      rotate_left
      ·intro w'
       go_simp
       with_reducible rfl
      rotate_left
      ·simp only [Act.put, sZ1, sZ2, sZ3, bL, bM]
       rfl
      refine take_ (i := 3) (N := some 31) (v := ?_) (a' := ?_) #[true, true, true, true, true, false, false, false] rfl rfl (bX HT_.out HW_.out (by kernel_rfl)) (fun _ _ _ h => h) (Or.inl ⟨by rfl, ?_⟩) hHeld ?_ ?_
      rotate_left
      ·rintro w' ⟨s0, s1, s2, s3, s4⟩
       go_simp
       with_reducible rfl
      rotate_left
      ·simp only [Act.put, sZ1, sZ2, sZ3, bL, bM]
       rfl
      refine one_ (i := 5) (N := none) #[true, true, true, true, true, true, false, false] rfl rfl (one_of HT_.out (by kernel_rfl)) (by decide) (fun K hK => ?_)
      have hs115 : w114.cell? ⟨gb109, 3, none⟩ = some (.int .i64 0) := (bC BK109.out 3).trans rfl
      have hfs115 := bB BK109.out 3
      have hns115_0 := NB102_109.out
      have hns115_1 := NB103_109.out
      have hns115_2 := NB108_109.out
      have hms115_0 := NB109_102.out
      have hms115_1 := NB109_103.out
      have hms115_2 := NB109_108.out
      refine skip_ (w1 := ?_) (by rfl) rfl ?_ ?_
      rotate_left
      ·go_simp
       rfl
      refine hK.out _ _ ⟨((bN (p := ⟨gb109, _, none⟩) NB102_109.out _).trans (hHeld.1)), ((bN (p := ⟨gb109, _, none⟩) NB102_109.out _).trans (hHeld.2.1)), ((bN (p := ⟨gb109, _, none⟩) NB102_109.out _).trans (hHeld.2.2.1)), ((bN (p := ⟨gb109, _, none⟩) NB102_109.out _).trans (hHeld.2.2.2.1)), ((bN (p := ⟨gb109, _, none⟩) NB102_109.out _).trans (hHeld.2.2.2.2))⟩ (fun hHeld => ?_)
      clear hK K
      refine bR (i := 6) (N := some 33) (v := ?_) (a' := ?_) #[true, true, true, true, true, true, true, false] rfl rfl (bQ HT_.out (by kernel_rfl)) (fun _ _ _ h => h) (Or.inl ⟨by rfl, ?_⟩) ?_ ?_
      rotate_left
      ·intro w'
       go_simp
       with_reducible rfl
      rotate_left
      ·simp only [Act.put, sZ1, sZ2, sZ3, bL, bM]
       rfl
      refine one_ (i := 7) (N := none) #[true, true, true, true, true, true, true, true] rfl rfl (one_of HT_.out (by kernel_rfl)) (by decide) (fun K hK => ?_)
      have hs116 : w114.cell? ⟨gb109, 4, none⟩ = some (.bool false) := (bC BK109.out 4).trans rfl
      have hfs116 := bB BK109.out 4
      have hns116_0 := NB102_109.out
      have hns116_1 := NB103_109.out
      have hns116_2 := NB108_109.out
      have hms116_0 := NB109_102.out
      have hms116_1 := NB109_103.out
      have hms116_2 := NB109_108.out
      refine skip_ (w1 := ?_) (by rfl) rfl ?_ ?_
      rotate_left
      ·go_simp
       rfl
      refine hK.out _ _ ⟨((bN (p := ⟨gb109, _, none⟩) NB102_109.out _).trans (hHeld.1)), ((bN (p := ⟨gb109, _, none⟩) NB102_109.out _).trans (hHeld.2.1)), ((bN (p := ⟨gb109, _, none⟩) NB102_109.out _).trans (hHeld.2.2.1)), ((bN (p := ⟨gb109, _, none⟩) NB102_109.out _).trans (hHeld.2.2.2.1)), ((bN (p := ⟨gb109, _, none⟩) NB102_109.out _).trans (hHeld.2.2.2.2))⟩ (fun hHeld => ?_)
      clear hK K
      refine done_ (done_of HT_.out (by kernel_rfl)) ?_
      try go_wp2
      have n0_ : Aside0 (((w114.setCell ⟨gb109, 3, none⟩ (.int .i64 a0_3)).setCell ⟨gb109, 4, none⟩ (.bool a0_4)).heap[gb102]? = some (.cells #[.int .i64 a0_0, .int .i64 a0_1, .int .i64 a0_2, .int .i64 a0_3, .bool a0_4] 23 (0, 0))) := ⟨by (with_reducible repeat (first | refine bG ?_ _ | refine bH ?_ | refine bF ?_ _)); refine bW ?_ NB102_109.out _; (with_reducible repeat (first | refine bG ?_ _ | refine bH ?_ | refine bF ?_ _)); refine bW ?_ NB102_109.out _; (with_reducible repeat (first | refine bG ?_ _ | refine bH ?_ | refine bF ?_ _)); exact BK102.out⟩
      have n1_ : Aside0 (((w114.setCell ⟨gb109, 3, none⟩ (.int .i64 a0_3)).setCell ⟨gb109, 4, none⟩ (.bool a0_4)).heap[gb103]? = some (.cells #[.bool false, .bool false, .bool false] 91 (0, 0))) := ⟨by (with_reducible repeat (first | refine bG ?_ _ | refine bH ?_ | refine bF ?_ _)); refine bW ?_ NB103_109.out _; (with_reducible repeat (first | refine bG ?_ _ | refine bH ?_ | refine bF ?_ _)); refine bW ?_ NB103_109.out _; (with_reducible repeat (first | refine bG ?_ _ | refine bH ?_ | refine bF ?_ _)); exact BK103.out⟩
      have n2_ : Aside0 (((w114.setCell ⟨gb109, 3, none⟩ (.int .i64 a0_3)).setCell ⟨gb109, 4, none⟩ (.bool a0_4)).heap[gb108]? = some (.cells #[.bool t104, .bool false, .bool true] 91 (0, 0))) := ⟨by (with_reducible repeat (first | refine bG ?_ _ | refine bH ?_ | refine bF ?_ _)); refine bW ?_ NB108_109.out _; (with_reducible repeat (first | refine bG ?_ _ | refine bH ?_ | refine bF ?_ _)); refine bW ?_ NB108_109.out _; (with_reducible repeat (first | refine bG ?_ _ | refine bH ?_ | refine bF ?_ _)); exact BK108.out⟩
      have n3_ : Aside0 (((w114.setCell ⟨gb109, 3, none⟩ (.int .i64 a0_3)).setCell ⟨gb109, 4, none⟩ (.bool a0_4)).heap[gb109]? = some (.cells #[.int .i64 a0_0, .int .i64 x110001_2, .int .i64 0, .int .i64 a0_3, .bool a0_4] 23 (0, 0))) := ⟨by (with_reducible repeat (first | refine bG ?_ _ | refine bH ?_ | refine bF ?_ _)); refine bY (cs := #[.int .i64 a0_0, .int .i64 x110001_2, .int .i64 0, .int .i64 a0_3, .bool false]) ?_ 4 _ rfl; (with_reducible repeat (first | refine bG ?_ _ | refine bH ?_ | refine bF ?_ _)); refine bY (cs := #[.int .i64 a0_0, .int .i64 x110001_2, .int .i64 0, .int .i64 0, .bool false]) ?_ 3 _ rfl; (with_reducible repeat (first | refine bG ?_ _ | refine bH ?_ | refine bF ?_ _)); exact BK109.out⟩
      have n4_ : Aside0 (Below w.heap.size w ((w114.setCell ⟨gb109, 3, none⟩ (.int .i64 a0_3)).setCell ⟨gb109, 4, none⟩ (.bool a0_4))) := ⟨by repeat (first | (with_reducible first | exact HB.out | apply bE | apply bA | apply bD | refine bJ ?_ GE102.out | refine bJ ?_ GE103.out | refine bJ ?_ GE108.out | refine bJ ?_ GE109.out) | exact HB.out)⟩
      (try clear BK102)
      (try clear BK103)
      (try clear BK108)
      (try clear BK109)
      (try clear HB)
      generalize ((w114.setCell ⟨gb109, 3, none⟩ (.int .i64 a0_3)).setCell ⟨gb109, 4, none⟩ (.bool a0_4)) = w117 at n0_ n1_ n2_ n3_ n4_ ⊢
      have BK102 := n0_
      have BK103 := n1_
      have BK108 := n2_
      have BK109 := n3_
      have HB := n4_
      clear n0_ n1_ n2_ n3_ n4_
      have n0_ := Aside0.mk (bH BK102.out)
      have n1_ := Aside0.mk (bH BK103.out)
      have n2_ := Aside0.mk (bH BK108.out)
      have n3_ := Aside0.mk (bH BK109.out)
      have n4_ := Aside0.mk (bD HB.out)
      clear BK102
      clear BK103
      clear BK108
      clear BK109
      clear HB
      have BK102 := n0_
      have BK103 := n1_
      have BK108 := n2_
      have BK109 := n3_
      have HB := n4_
      clear n0_ n1_ n2_ n3_ n4_
      refine start_ (n := 9) (S := fun w' => w'.cell? ⟨gb108, 0, none⟩ = some (.bool t104) ∧ w'.cell? ⟨gb108, 1, none⟩ = some (.bool false) ∧ w'.cell? ⟨gb108, 2, none⟩ = some (.bool true)) (ds := []) #[false, false, false, false, false, false, false, false, false] (by kernel_rfl) rfl rfl ⟨(bC BK108.out 0).trans rfl, (bC BK108.out 1).trans rfl, (bC BK108.out 2).trans rfl⟩ (fun hHeld => ?_); refine with_tabW stmt_form.tab9 stmt_form.bits9 (fun HT_ HW_ => ?_)
      generalize w117.drew = w118 at BK102 BK103 BK108 BK109 HB hHeld ⊢
      refine bR (i := 1) (N := some 35) (v := ?_) (a' := ?_) #[false, true, false, false, false, false, false, false, false] rfl rfl (bQ HT_.out (by kernel_rfl)) (fun _ _ _ h => h) (Or.inl ⟨by rfl, ?_⟩) ?_ ?_
      rotate_left
      ·intro w'
       go_simp
       with_reducible rfl
      rotate_left
      ·simp only [Act.put, sZ1, sZ2, sZ3, bL, bM]
       rfl
      refine bR (i := 2) (N := some 36) (v := ?_) (a' := ?_) #[false, true, true, false, false, false, false, false, false] rfl rfl (bQ HT_.out (by kernel_rfl)) (fun _ _ _ h => h) (Or.inl ⟨by rfl, ?_⟩) ?_ ?_
      rotate_left
      ·intro w'
       go_simp
       with_reducible rfl
      rotate_left
      ·simp only [Act.put, sZ1, sZ2, sZ3, bL, bM]
       rfl
      refine bR (i := 3) (N := some 37) (v := undef) (a' := ?_) #[false, true, true, true, false, false, false, false, false] rfl rfl (bQ HT_.out (by kernel_rfl)) (fun _ _ _ h => h) (Or.inr ⟨by rfl, rfl⟩) ?_ ?_
      rotate_left
      ·simp only [Act.put, sZ1, sZ2, sZ3, bL, bM]
       rfl
      refine bR (i := 4) (N := some 38) (v := undef) (a' := ?_) #[false, true, true, true, true, false, false, false, false] rfl rfl (bQ HT_.out (by kernel_rfl)) (fun _ _ _ h => h) (Or.inr ⟨by rfl, rfl⟩) ?_ ?_
      rotate_left
      ·simp only [Act.put, sZ1, sZ2, sZ3, bL, bM]
       rfl
      refine bR (i := 5) (N := some 39) (v := undef) (a' := ?_) #[false, true, true, true, true, true, false, false, false] rfl rfl (bQ HT_.out (by kernel_rfl)) (fun _ _ _ h => h) (Or.inr ⟨by rfl, rfl⟩) ?_ ?_
      rotate_left
      ·simp only [Act.put, sZ1, sZ2, sZ3, bL, bM]
       rfl
      refine bR (i := 6) (N := some 40) (v := ?_) (a' := ?_) #[false, true, true, true, true, true, true, false, false] rfl rfl (bQ HT_.out (by kernel_rfl)) (fun _ _ _ h => h) (Or.inl ⟨by rfl, ?_⟩) ?_ ?_
      rotate_left
      ·intro w'
       go_simp
       with_reducible rfl
      rotate_left
      ·simp only [Act.put, sZ1, sZ2, sZ3, bL, bM]
       rfl
      refine take_ (i := 0) (N := some 34) (v := ?_) (a' := ?_) #[true, true, true, true, true, true, true, false, false] rfl rfl (bX HT_.out HW_.out (by kernel_rfl)) (fun _ _ _ h => h) (Or.inl ⟨by rfl, ?_⟩) hHeld ?_ ?_
      rotate_left
      ·rintro w' ⟨s0, s1, s2⟩
       go_simp
       with_reducible rfl
      rotate_left
      ·simp only [Act.put, sZ1, sZ2, sZ3, bL, bM]
       rfl
      refine one_ (i := 7) (N := none) #[true, true, true, true, true, true, true, true, false] rfl rfl (one_of HT_.out (by kernel_rfl)) (by decide) (fun K hK => ?_)
      have hs119 : w118.cell? ⟨gb103, 0, none⟩ = some (.bool false) := (bC BK103.out 0).trans rfl
      have hfs119 := bB BK103.out 0
      have hns119_0 := NB102_103.out
      have hns119_2 := NB108_103.out
      have hns119_3 := NB109_103.out
      have hms119_0 := NB103_102.out
      have hms119_2 := NB103_108.out
      have hms119_3 := NB103_109.out
      have hs120 : w118.cell? ⟨gb103, 1, none⟩ = some (.bool false) := (bC BK103.out 1).trans rfl
      have hfs120 := bB BK103.out 1
      have hns120_0 := NB102_103.out
      have hns120_2 := NB108_103.out
      have hns120_3 := NB109_103.out
      have hms120_0 := NB103_102.out
      have hms120_2 := NB103_108.out
      have hms120_3 := NB103_109.out
      have hs121 : w118.cell? ⟨gb103, 2, none⟩ = some (.bool false) := (bC BK103.out 2).trans rfl
      have hfs121 := bB BK103.out 2
      have hns121_0 := NB102_103.out
      have hns121_2 := NB108_103.out
      have hns121_3 := NB109_103.out
      have hms121_0 := NB103_102.out
      have hms121_2 := NB103_108.out
      have hms121_3 := NB103_109.out
      refine skip_ (w1 := ?_) (by rfl) rfl ?_ ?_
      rotate_left
      ·go_simp
       rfl
      refine hK.out _ _ ⟨((bN (p := ⟨gb103, _, none⟩) NB108_103.out _).trans (((bN (p := ⟨gb103, _, none⟩) NB108_103.out _).trans (((bN (p := ⟨gb103, _, none⟩) NB108_103.out _).trans (hHeld.1)))))), ((bN (p := ⟨gb103, _, none⟩) NB108_103.out _).trans (((bN (p := ⟨gb103, _, none⟩) NB108_103.out _).trans (((bN (p := ⟨gb103, _, none⟩) NB108_103.out _).trans (hHeld.2.1)))))), ((bN (p := ⟨gb103, _, none⟩) NB108_103.out _).trans (((bN (p := ⟨gb103, _, none⟩) NB108_103.out _).trans (((bN (p := ⟨gb103, _, none⟩) NB108_103.out _).trans (hHeld.2.2))))))⟩ (fun hHeld => ?_)
      clear hK K
      refine bR (i := 8) (N := some 3) (v := ?_) (a' := ?_) #[true, true, true, true, true, true, true, true, true] rfl rfl (bQ HT_.out (by kernel_rfl)) (fun _ _ _ h => h) (Or.inl ⟨by rfl, ?_⟩) ?_ ?_
      rotate_left
      ·intro w'
       go_simp
       with_reducible rfl
      rotate_left
      ·simp only [Act.put, sZ1, sZ2, sZ3, bL, bM]
       rfl
      refine done_ (done_of HT_.out (by kernel_rfl)) ?_
      try go_wp2
      refine bodyPost_ret (results_ct rfl _ _ gb103 91 #[.bool t104, .bool false, .bool true] (0, 0) _ rfl (by (with_reducible repeat (first | refine bG ?_ _ | refine bH ?_ | refine bF ?_ _)); refine bY (cs := #[.bool t104, .bool false, .bool false]) ?_ 2 _ rfl; (with_reducible repeat (first | refine bG ?_ _ | refine bH ?_ | refine bF ?_ _)); refine bY (cs := #[.bool t104, .bool false, .bool false]) ?_ 1 _ rfl; (with_reducible repeat (first | refine bG ?_ _ | refine bH ?_ | refine bF ?_ _)); refine bY (cs := #[.bool false, .bool false, .bool false]) ?_ 0 _ rfl; (with_reducible repeat (first | refine bG ?_ _ | refine bH ?_ | refine bF ?_ _)); exact BK103.out) Try.underlying91 rfl (by kernel_rfl)) rfl ?_
      exact ⟨by first | rfl | (simp [errW_none, errW_some] <;> rfl) | (simp [*, errW_none, errW_some] <;> rfl), by repeat (first | (with_reducible first | exact HB.out | apply bE | apply bA | apply bD | refine bJ ?_ GE102.out | refine bJ ?_ GE103.out | refine bJ ?_ GE108.out | refine bJ ?_ GE109.out) | exact HB.out)⟩
    ·replace c96 := Bool.eq_false_iff.mpr c96
     subst c96
     have H1 : (if t107 = true then (some (t104, false, false, (a0_0 == a0_0 && (x110001_2 == a0_1 && (0 == a0_2 && (0 == a0_3 && (false == a0_4))))))) else (some (t104, false, false, false))) = some (r1, r2, r3, r4) := by rw [if_neg (show ¬ (false = true) by decide)] at H; exact H
     clear H
     have H := H1
     clear H1
     by_cases c122 : t107 = true
     ·subst c122
      have H1 : (some (t104, false, false, (a0_0 == a0_0 && (x110001_2 == a0_1 && (0 == a0_2 && (0 == a0_3 && (false == a0_4))))))) = some (r1, r2, r3, r4) := by rw [if_pos rfl] at H; exact H
      clear H
      have H := H1
      clear H1
      simp only [Option.some.injEq, Prod.mk.injEq] at H
      obtain ⟨rfl, rfl, rfl, rfl⟩ := H
      have hnb123 := NB108_102.out
      have hnc123 := NB102_108.out
      have hnb124 := NB108_103.out
      have hnc124 := NB103_108.out
      have hnb125 := NB108_109.out
      have hnc125 := NB109_108.out
      have hcz126_0 : wc.cell? ⟨gb108, 0, none⟩ = some (.bool t104) := (bC BK108.out 0).trans rfl
      have hcz126_1 : wc.cell? ⟨gb108, 1, none⟩ = some (.bool false) := (bC BK108.out 1).trans rfl
      have hcz126_2 : wc.cell? ⟨gb108, 2, none⟩ = some (.bool false) := (bC BK108.out 2).trans rfl
      have hfz126_0 := bB BK108.out 0
      have hfz126_1 := bB BK108.out 1
      have hfz126_2 := bB BK108.out 2
      try go_wp2
      have n0_ := Aside0.mk (bH BK102.out)
      have n1_ := Aside0.mk (bH BK103.out)
      have n2_ := Aside0.mk (bH BK108.out)
      have n3_ := Aside0.mk (bH BK109.out)
      have n4_ := Aside0.mk (bD HB.out)
      clear BK102
      clear BK103
      clear BK108
      clear BK109
      clear HB
      have BK102 := n0_
      have BK103 := n1_
      have BK108 := n2_
      have BK109 := n3_
      have HB := n4_
      clear n0_ n1_ n2_ n3_ n4_
      refine start_ (n := 9) (S := fun w' => w'.cell? ⟨gb108, 0, none⟩ = some (.bool t104) ∧ w'.cell? ⟨gb108, 1, none⟩ = some (.bool false) ∧ w'.cell? ⟨gb108, 2, none⟩ = some (.bool false) ∧ w'.cell? ⟨gb109, 0, none⟩ = some (.int .i64 a0_0) ∧ w'.cell? ⟨gb109, 1, none⟩ = some (.int .i64 x110001_2) ∧ w'.cell? ⟨gb109, 2, none⟩ = some (.int .i64 0) ∧ w'.cell? ⟨gb109, 3, none⟩ = some (.int .i64 0) ∧ w'.cell? ⟨gb109, 4, none⟩ = some (.bool false) ∧ w'.cell? ⟨gb102, 0, none⟩ = some (.int .i64 a0_0) ∧ w'.cell? ⟨gb102, 1, none⟩ = some (.int .i64 a0_1) ∧ w'.cell? ⟨gb102, 2, none⟩ = some (.int .i64 a0_2) ∧ w'.cell? ⟨gb102, 3, none⟩ = some (.int .i64 a0_3) ∧ w'.cell? ⟨gb102, 4, none⟩ = some (.bool a0_4)) (ds := []) #[false, false, false, false, false, false, false, false, false] (by kernel_rfl) rfl rfl ⟨(bC BK108.out 0).trans rfl, (bC BK108.out 1).trans rfl, (bC BK108.out 2).trans rfl, (bC BK109.out 0).trans rfl, (bC BK109.out 1).trans rfl, (bC BK109.out 2).trans rfl, (bC BK109.out 3).trans rfl, (bC BK109.out 4).trans rfl, (bC BK102.out 0).trans rfl, (bC BK102.out 1).trans rfl, (bC BK102.out 2).trans rfl, (bC BK102.out 3).trans rfl, (bC BK102.out 4).trans rfl⟩ (fun hHeld => ?_); refine with_tabW stmt_form.tab9 stmt_form.bits9 (fun HT_ HW_ => ?_)
      generalize wc.drew = w127 at BK102 BK103 BK108 BK109 HB hHeld ⊢
      refine bR (i := 1) (N := some 35) (v := ?_) (a' := ?_) #[false, true, false, false, false, false, false, false, false] rfl rfl (bQ HT_.out (by kernel_rfl)) (fun _ _ _ h => h) (Or.inl ⟨by rfl, ?_⟩) ?_ ?_
      rotate_left
      ·intro w'
       go_simp
       with_reducible rfl
      rotate_left
      ·simp only [Act.put, sZ1, sZ2, sZ3, bL, bM]
       rfl
      refine bR (i := 2) (N := some 36) (v := ?_) (a' := ?_) #[false, true, true, false, false, false, false, false, false] rfl rfl (bQ HT_.out (by kernel_rfl)) (fun _ _ _ h => h) (Or.inl ⟨by rfl, ?_⟩) ?_ ?_
      rotate_left
      ·intro w'
       go_simp
       with_reducible rfl
      rotate_left
      ·simp only [Act.put, sZ1, sZ2, sZ3, bL, bM]
       rfl
      refine take_ (i := 0) (N := some 34) (v := ?_) (a' := ?_) #[true, true, true, false, false, false, false, false, false] rfl rfl (bX HT_.out HW_.out (by kernel_rfl)) (fun _ _ _ h => h) (Or.inl ⟨by rfl, ?_⟩) hHeld ?_ ?_
      rotate_left
      ·rintro w' ⟨s0, s1, s2, s3, s4, s5, s6, s7, s8, s9, s10, s11, s12⟩
       go_simp
       with_reducible rfl
      rotate_left
      ·simp only [Act.put, sZ1, sZ2, sZ3, bL, bM]
       rfl
      refine take_ (i := 3) (N := some 37) (v := ?_) (a' := ?_) #[true, true, true, true, false, false, false, false, false] rfl rfl (bX HT_.out HW_.out (by kernel_rfl)) (fun _ _ _ h => h) (Or.inl ⟨by rfl, ?_⟩) hHeld ?_ ?_
      rotate_left
      ·rintro w' ⟨s0, s1, s2, s3, s4, s5, s6, s7, s8, s9, s10, s11, s12⟩
       go_simp
       with_reducible rfl
      rotate_left
      ·simp only [Act.put, sZ1, sZ2, sZ3, bL, bM]
       rfl
      refine take_ (i := 4) (N := some 38) (v := ?_) (a' := ?_) #[true, true, true, true, true, false, false, false, false] rfl rfl (bX HT_.out HW_.out (by kernel_rfl)) (fun _ _ _ h => h) (Or.inl ⟨by rfl, ?_⟩) hHeld ?_ ?_
      rotate_left
      ·rintro w' ⟨s0, s1, s2, s3, s4, s5, s6, s7, s8, s9, s10, s11, s12⟩
       go_simp
       with_reducible rfl
      rotate_left
      ·simp only [Act.put, sZ1, sZ2, sZ3, bL, bM]
       rfl
      refine bR (i := 5) (N := some 39) (v := ?_) (a' := ?_) #[true, true, true, true, true, true, false, false, false] rfl rfl (bQ HT_.out (by kernel_rfl)) (fun _ _ _ h => h) (Or.inl ⟨by rfl, ?_⟩) ?_ ?_
      rotate_left
      ·intro w'
       go_simp
       with_reducible rfl
      rotate_left
      ·simp only [Act.put, sZ1, sZ2, sZ3, bL, bM]
       rfl
      refine bR (i := 6) (N := some 40) (v := ?_) (a' := ?_) #[true, true, true, true, true, true, true, false, false] rfl rfl (bQ HT_.out (by kernel_rfl)) (fun _ _ _ h => h) (Or.inl ⟨by rfl, ?_⟩) ?_ ?_
      rotate_left
      ·intro w'
       go_simp
       with_reducible rfl
      rotate_left
      ·simp only [Act.put, sZ1, sZ2, sZ3, bL, bM]
       rfl
      refine one_ (i := 7) (N := none) #[true, true, true, true, true, true, true, true, false] rfl rfl (one_of HT_.out (by kernel_rfl)) (by decide) (fun K hK => ?_)
      have hs128 : w127.cell? ⟨gb103, 0, none⟩ = some (.bool false) := (bC BK103.out 0).trans rfl
      have hfs128 := bB BK103.out 0
      have hns128_0 := NB102_103.out
      have hns128_2 := NB108_103.out
      have hns128_3 := NB109_103.out
      have hms128_0 := NB103_102.out
      have hms128_2 := NB103_108.out
      have hms128_3 := NB103_109.out
      have hs129 : w127.cell? ⟨gb103, 1, none⟩ = some (.bool false) := (bC BK103.out 1).trans rfl
      have hfs129 := bB BK103.out 1
      have hns129_0 := NB102_103.out
      have hns129_2 := NB108_103.out
      have hns129_3 := NB109_103.out
      have hms129_0 := NB103_102.out
      have hms129_2 := NB103_108.out
      have hms129_3 := NB103_109.out
      have hs130 : w127.cell? ⟨gb103, 2, none⟩ = some (.bool false) := (bC BK103.out 2).trans rfl
      have hfs130 := bB BK103.out 2
      have hns130_0 := NB102_103.out
      have hns130_2 := NB108_103.out
      have hns130_3 := NB109_103.out
      have hms130_0 := NB103_102.out
      have hms130_2 := NB103_108.out
      have hms130_3 := NB103_109.out
      refine skip_ (w1 := ?_) (by rfl) rfl ?_ ?_
      rotate_left
      ·go_simp
       rfl
      refine hK.out _ _ ⟨((bN (p := ⟨gb103, _, none⟩) NB108_103.out _).trans (((bN (p := ⟨gb103, _, none⟩) NB108_103.out _).trans (((bN (p := ⟨gb103, _, none⟩) NB108_103.out _).trans (hHeld.1)))))), ((bN (p := ⟨gb103, _, none⟩) NB108_103.out _).trans (((bN (p := ⟨gb103, _, none⟩) NB108_103.out _).trans (((bN (p := ⟨gb103, _, none⟩) NB108_103.out _).trans (hHeld.2.1)))))), ((bN (p := ⟨gb103, _, none⟩) NB108_103.out _).trans (((bN (p := ⟨gb103, _, none⟩) NB108_103.out _).trans (((bN (p := ⟨gb103, _, none⟩) NB108_103.out _).trans (hHeld.2.2.1)))))), ((bN (p := ⟨gb103, _, none⟩) NB109_103.out _).trans (((bN (p := ⟨gb103, _, none⟩) NB109_103.out _).trans (((bN (p := ⟨gb103, _, none⟩) NB109_103.out _).trans (hHeld.2.2.2.1)))))), ((bN (p := ⟨gb103, _, none⟩) NB109_103.out _).trans (((bN (p := ⟨gb103, _, none⟩) NB109_103.out _).trans (((bN (p := ⟨gb103, _, none⟩) NB109_103.out _).trans (hHeld.2.2.2.2.1)))))), ((bN (p := ⟨gb103, _, none⟩) NB109_103.out _).trans (((bN (p := ⟨gb103, _, none⟩) NB109_103.out _).trans (((bN (p := ⟨gb103, _, none⟩) NB109_103.out _).trans (hHeld.2.2.2.2.2.1)))))), ((bN (p := ⟨gb103, _, none⟩) NB109_103.out _).trans (((bN (p := ⟨gb103, _, none⟩) NB109_103.out _).trans (((bN (p := ⟨gb103, _, none⟩) NB109_103.out _).trans (hHeld.2.2.2.2.2.2.1)))))), ((bN (p := ⟨gb103, _, none⟩) NB109_103.out _).trans (((bN (p := ⟨gb103, _, none⟩) NB109_103.out _).trans (((bN (p := ⟨gb103, _, none⟩) NB109_103.out _).trans (hHeld.2.2.2.2.2.2.2.1)))))), ((bN (p := ⟨gb103, _, none⟩) NB102_103.out _).trans (((bN (p := ⟨gb103, _, none⟩) NB102_103.out _).trans (((bN (p := ⟨gb103, _, none⟩) NB102_103.out _).trans (hHeld.2.2.2.2.2.2.2.2.1)))))), ((bN (p := ⟨gb103, _, none⟩) NB102_103.out _).trans (((bN (p := ⟨gb103, _, none⟩) NB102_103.out _).trans (((bN (p := ⟨gb103, _, none⟩) NB102_103.out _).trans (hHeld.2.2.2.2.2.2.2.2.2.1)))))), ((bN (p := ⟨gb103, _, none⟩) NB102_103.out _).trans (((bN (p := ⟨gb103, _, none⟩) NB102_103.out _).trans (((bN (p := ⟨gb103, _, none⟩) NB102_103.out _).trans (hHeld.2.2.2.2.2.2.2.2.2.2.1)))))), ((bN (p := ⟨gb103, _, none⟩) NB102_103.out _).trans (((bN (p := ⟨gb103, _, none⟩) NB102_103.out _).trans (((bN (p := ⟨gb103, _, none⟩) NB102_103.out _).trans (hHeld.2.2.2.2.2.2.2.2.2.2.2.1)))))), ((bN (p := ⟨gb103, _, none⟩) NB102_103.out _).trans (((bN (p := ⟨gb103, _, none⟩) NB102_103.out _).trans (((bN (p := ⟨gb103, _, none⟩) NB102_103.out _).trans (hHeld.2.2.2.2.2.2.2.2.2.2.2.2))))))⟩ (fun hHeld => ?_)
      clear hK K
      refine bR (i := 8) (N := some 3) (v := ?_) (a' := ?_) #[true, true, true, true, true, true, true, true, true] rfl rfl (bQ HT_.out (by kernel_rfl)) (fun _ _ _ h => h) (Or.inl ⟨by rfl, ?_⟩) ?_ ?_
      rotate_left
      ·intro w'
       go_simp
       with_reducible rfl
      rotate_left
      ·simp only [Act.put, sZ1, sZ2, sZ3, bL, bM]
       rfl
      refine done_ (done_of HT_.out (by kernel_rfl)) ?_
      try go_wp2
      refine bodyPost_ret (results_ct rfl _ _ gb103 91 #[.bool t104, .bool false, .bool false] (0, 0) _ rfl (by (with_reducible repeat (first | refine bG ?_ _ | refine bH ?_ | refine bF ?_ _)); refine bY (cs := #[.bool t104, .bool false, .bool false]) ?_ 2 _ rfl; (with_reducible repeat (first | refine bG ?_ _ | refine bH ?_ | refine bF ?_ _)); refine bY (cs := #[.bool t104, .bool false, .bool false]) ?_ 1 _ rfl; (with_reducible repeat (first | refine bG ?_ _ | refine bH ?_ | refine bF ?_ _)); refine bY (cs := #[.bool false, .bool false, .bool false]) ?_ 0 _ rfl; (with_reducible repeat (first | refine bG ?_ _ | refine bH ?_ | refine bF ?_ _)); exact BK103.out) Try.underlying91 rfl (by kernel_rfl)) rfl ?_
      exact ⟨by first | rfl | (simp [errW_none, errW_some] <;> rfl) | (simp [*, errW_none, errW_some] <;> rfl), by repeat (first | (with_reducible first | exact HB.out | apply bE | apply bA | apply bD | refine bJ ?_ GE102.out | refine bJ ?_ GE103.out | refine bJ ?_ GE108.out | refine bJ ?_ GE109.out) | exact HB.out)⟩
     ·replace c122 := Bool.eq_false_iff.mpr c122
      subst c122
      have H1 : (some (t104, false, false, false)) = some (r1, r2, r3, r4) := by rw [if_neg (show ¬ (false = true) by decide)] at H; exact H
      clear H
      have H := H1
      clear H1
      simp only [Option.some.injEq, Prod.mk.injEq] at H
      obtain ⟨rfl, rfl, rfl, rfl⟩ := H
      have hnb131 := NB108_102.out
      have hnc131 := NB102_108.out
      have hnb132 := NB108_103.out
      have hnc132 := NB103_108.out
      have hnb133 := NB108_109.out
      have hnc133 := NB109_108.out
      have hcz134_0 : wc.cell? ⟨gb108, 0, none⟩ = some (.bool t104) := (bC BK108.out 0).trans rfl
      have hcz134_1 : wc.cell? ⟨gb108, 1, none⟩ = some (.bool false) := (bC BK108.out 1).trans rfl
      have hcz134_2 : wc.cell? ⟨gb108, 2, none⟩ = some (.bool false) := (bC BK108.out 2).trans rfl
      have hfz134_0 := bB BK108.out 0
      have hfz134_1 := bB BK108.out 1
      have hfz134_2 := bB BK108.out 2
      try go_wp2
      have n0_ := Aside0.mk (bH BK102.out)
      have n1_ := Aside0.mk (bH BK103.out)
      have n2_ := Aside0.mk (bH BK108.out)
      have n3_ := Aside0.mk (bH BK109.out)
      have n4_ := Aside0.mk (bD HB.out)
      clear BK102
      clear BK103
      clear BK108
      clear BK109
      clear HB
      have BK102 := n0_
      have BK103 := n1_
      have BK108 := n2_
      have BK109 := n3_
      have HB := n4_
      clear n0_ n1_ n2_ n3_ n4_
      refine start_ (n := 9) (S := fun w' => w'.cell? ⟨gb108, 0, none⟩ = some (.bool t104) ∧ w'.cell? ⟨gb108, 1, none⟩ = some (.bool false) ∧ w'.cell? ⟨gb108, 2, none⟩ = some (.bool false)) (ds := []) #[false, false, false, false, false, false, false, false, false] (by kernel_rfl) rfl rfl ⟨(bC BK108.out 0).trans rfl, (bC BK108.out 1).trans rfl, (bC BK108.out 2).trans rfl⟩ (fun hHeld => ?_); refine with_tabW stmt_form.tab9 stmt_form.bits9 (fun HT_ HW_ => ?_)
      generalize wc.drew = w135 at BK102 BK103 BK108 BK109 HB hHeld ⊢
      refine bR (i := 1) (N := some 35) (v := ?_) (a' := ?_) #[false, true, false, false, false, false, false, false, false] rfl rfl (bQ HT_.out (by kernel_rfl)) (fun _ _ _ h => h) (Or.inl ⟨by rfl, ?_⟩) ?_ ?_
      rotate_left
      ·intro w'
       go_simp
       with_reducible rfl
      rotate_left
      ·simp only [Act.put, sZ1, sZ2, sZ3, bL, bM]
       rfl
      refine bR (i := 2) (N := some 36) (v := ?_) (a' := ?_) #[false, true, true, false, false, false, false, false, false] rfl rfl (bQ HT_.out (by kernel_rfl)) (fun _ _ _ h => h) (Or.inl ⟨by rfl, ?_⟩) ?_ ?_
      rotate_left
      ·intro w'
       go_simp
       with_reducible rfl
      rotate_left
      ·simp only [Act.put, sZ1, sZ2, sZ3, bL, bM]
       rfl
      refine bR (i := 3) (N := some 37) (v := undef) (a' := ?_) #[false, true, true, true, false, false, false, false, false] rfl rfl (bQ HT_.out (by kernel_rfl)) (fun _ _ _ h => h) (Or.inr ⟨by rfl, rfl⟩) ?_ ?_
      rotate_left
      ·simp only [Act.put, sZ1, sZ2, sZ3, bL, bM]
       rfl
      refine bR (i := 4) (N := some 38) (v := undef) (a' := ?_) #[false, true, true, true, true, false, false, false, false] rfl rfl (bQ HT_.out (by kernel_rfl)) (fun _ _ _ h => h) (Or.inr ⟨by rfl, rfl⟩) ?_ ?_
      rotate_left
      ·simp only [Act.put, sZ1, sZ2, sZ3, bL, bM]
       rfl
      refine bR (i := 5) (N := some 39) (v := undef) (a' := ?_) #[false, true, true, true, true, true, false, false, false] rfl rfl (bQ HT_.out (by kernel_rfl)) (fun _ _ _ h => h) (Or.inr ⟨by rfl, rfl⟩) ?_ ?_
      rotate_left
      ·simp only [Act.put, sZ1, sZ2, sZ3, bL, bM]
       rfl
      refine bR (i := 6) (N := some 40) (v := ?_) (a' := ?_) #[false, true, true, true, true, true, true, false, false] rfl rfl (bQ HT_.out (by kernel_rfl)) (fun _ _ _ h => h) (Or.inl ⟨by rfl, ?_⟩) ?_ ?_
      rotate_left
      ·intro w'
       go_simp
       with_reducible rfl
      rotate_left
      ·simp only [Act.put, sZ1, sZ2, sZ3, bL, bM]
       rfl
      refine take_ (i := 0) (N := some 34) (v := ?_) (a' := ?_) #[true, true, true, true, true, true, true, false, false] rfl rfl (bX HT_.out HW_.out (by kernel_rfl)) (fun _ _ _ h => h) (Or.inl ⟨by rfl, ?_⟩) hHeld ?_ ?_
      rotate_left
      ·rintro w' ⟨s0, s1, s2⟩
       go_simp
       with_reducible rfl
      rotate_left
      ·simp only [Act.put, sZ1, sZ2, sZ3, bL, bM]
       rfl
      refine one_ (i := 7) (N := none) #[true, true, true, true, true, true, true, true, false] rfl rfl (one_of HT_.out (by kernel_rfl)) (by decide) (fun K hK => ?_)
      have hs136 : w135.cell? ⟨gb103, 0, none⟩ = some (.bool false) := (bC BK103.out 0).trans rfl
      have hfs136 := bB BK103.out 0
      have hns136_0 := NB102_103.out
      have hns136_2 := NB108_103.out
      have hns136_3 := NB109_103.out
      have hms136_0 := NB103_102.out
      have hms136_2 := NB103_108.out
      have hms136_3 := NB103_109.out
      have hs137 : w135.cell? ⟨gb103, 1, none⟩ = some (.bool false) := (bC BK103.out 1).trans rfl
      have hfs137 := bB BK103.out 1
      have hns137_0 := NB102_103.out
      have hns137_2 := NB108_103.out
      have hns137_3 := NB109_103.out
      have hms137_0 := NB103_102.out
      have hms137_2 := NB103_108.out
      have hms137_3 := NB103_109.out
      have hs138 : w135.cell? ⟨gb103, 2, none⟩ = some (.bool false) := (bC BK103.out 2).trans rfl
      have hfs138 := bB BK103.out 2
      have hns138_0 := NB102_103.out
      have hns138_2 := NB108_103.out
      have hns138_3 := NB109_103.out
      have hms138_0 := NB103_102.out
      have hms138_2 := NB103_108.out
      have hms138_3 := NB103_109.out
      refine skip_ (w1 := ?_) (by rfl) rfl ?_ ?_
      rotate_left
      ·go_simp
       rfl
      refine hK.out _ _ ⟨((bN (p := ⟨gb103, _, none⟩) NB108_103.out _).trans (((bN (p := ⟨gb103, _, none⟩) NB108_103.out _).trans (((bN (p := ⟨gb103, _, none⟩) NB108_103.out _).trans (hHeld.1)))))), ((bN (p := ⟨gb103, _, none⟩) NB108_103.out _).trans (((bN (p := ⟨gb103, _, none⟩) NB108_103.out _).trans (((bN (p := ⟨gb103, _, none⟩) NB108_103.out _).trans (hHeld.2.1)))))), ((bN (p := ⟨gb103, _, none⟩) NB108_103.out _).trans (((bN (p := ⟨gb103, _, none⟩) NB108_103.out _).trans (((bN (p := ⟨gb103, _, none⟩) NB108_103.out _).trans (hHeld.2.2))))))⟩ (fun hHeld => ?_)
      clear hK K
      refine bR (i := 8) (N := some 3) (v := ?_) (a' := ?_) #[true, true, true, true, true, true, true, true, true] rfl rfl (bQ HT_.out (by kernel_rfl)) (fun _ _ _ h => h) (Or.inl ⟨by rfl, ?_⟩) ?_ ?_
      rotate_left
      ·intro w'
       go_simp
       with_reducible rfl
      rotate_left
      ·simp only [Act.put, sZ1, sZ2, sZ3, bL, bM]
       rfl
      refine done_ (done_of HT_.out (by kernel_rfl)) ?_
      try go_wp2
      refine bodyPost_ret (results_ct rfl _ _ gb103 91 #[.bool t104, .bool false, .bool false] (0, 0) _ rfl (by (with_reducible repeat (first | refine bG ?_ _ | refine bH ?_ | refine bF ?_ _)); refine bY (cs := #[.bool t104, .bool false, .bool false]) ?_ 2 _ rfl; (with_reducible repeat (first | refine bG ?_ _ | refine bH ?_ | refine bF ?_ _)); refine bY (cs := #[.bool t104, .bool false, .bool false]) ?_ 1 _ rfl; (with_reducible repeat (first | refine bG ?_ _ | refine bH ?_ | refine bF ?_ _)); refine bY (cs := #[.bool false, .bool false, .bool false]) ?_ 0 _ rfl; (with_reducible repeat (first | refine bG ?_ _ | refine bH ?_ | refine bF ?_ _)); exact BK103.out) Try.underlying91 rfl (by kernel_rfl)) rfl ?_
      exact ⟨by first | rfl | (simp [errW_none, errW_some] <;> rfl) | (simp [*, errW_none, errW_some] <;> rfl), by repeat (first | (with_reducible first | exact HB.out | apply bE | apply bA | apply bD | refine bJ ?_ GE102.out | refine bJ ?_ GE103.out | refine bJ ?_ GE108.out | refine bJ ?_ GE109.out) | exact HB.out)⟩

end Go.Proofs.Ythhebinonpoddaa.GStmtNeeds
