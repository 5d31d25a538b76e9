/- Written for this claim by gp.py, a program of this session's, over the kit's print. Lean checks it. -/
import Derived.Test.YthfpdpjccnnlhaaGBfsLayersx0
import Derived.Test.YthfpdpjccnnlhaaGBfsLayershx
import Derived.Test.YthfpdpjccnnlhaaGBfsLayershhp1
import Derived.Test.YthfpdpjccnnlhaaGBfsLayershhp2
import Derived.Test.YthfpdpjccnnlhaaGBfsLayershgp
import Derived.Test.YthfpdpjccnnlhaaGBfsLayershg1
import Derived.WalkKit
import Derived.StillTailTactics
import Derived.Deep.LoopGhost
import Derived.KernelRfl
import Derived.Deep.OwnRows
import Derived.Laws.OwnMore
import Derived.Laws.MakeOwn
import Derived.Maps.AppendAt
import Derived.OrdersHeld
namespace Go.Proofs.Ythfpdpjccnnlhaa.GBfsLayers
open Go.RowKit Go.Proofs.YthfpdpjccnnlhaaW.PrintWords Go.Proofs.YthfpdpjccnnlhaaW.PrintLast Go.Proofs.YthfpdpjccnnlhaaW.PrintMore
attribute [local go_sem] max2_int min2_int max_two min_two max_three min_three max_four min_four   -- for this text's walks alone
set_option linter.unusedVariables false
set_option linter.unusedSimpArgs false

--import Derived.WalkKit
--import Derived.StillTailTactics
--import Derived.Deep.LoopGhost
--import Derived.KernelRfl
--import Derived.Deep.OwnRows
--import Derived.Laws.OwnMore
--import Derived.Laws.MakeOwn
--import Derived.Maps.AppendAt
--import Derived.OrdersHeld
attribute [local irreducible] wpStill wpList Code.wp TA

set_option maxRecDepth 100000 in
set_option maxHeartbeats 1000000 in
theorem turn_nil (W : World) : Calls Try.prog 21 #[.pointer none] W fun e W' => e = .returned (.pointer none) ∧ St W (owns []) W' [] := by
  have HS : St W (owns []) W [] := St.start W _
  refine calls_enter ((.pointer none) :: undef :: undef :: undef :: undef :: undef :: undef :: undef :: undef :: undef :: undef :: undef :: undef :: undef :: undef :: undef :: undef :: undef :: undef :: undef :: undef :: undef :: undef :: undef :: undef :: undef :: undef :: undef :: undef :: undef :: undef :: undef :: undef :: undef :: undef :: undef :: undef :: undef :: undef :: undef :: undef :: undef :: undef :: undef :: undef :: undef :: undef :: undef :: undef :: undef :: undef :: undef :: undef :: undef :: undef :: undef :: undef :: undef :: undef :: []) Try.func21 rfl (by kernel_rfl) ?_
  refine wp_seq ?_
  refine wp_region_lit ?_
  refine ql (.pointer none) (by kernel_rfl) (by kernel_rfl) ?_
  refine wpList_nil ?_
  refine x_then ?_
  refine wp_seq ?_
  refine wp_seq ?_
  refine wp_region_lit ?_
  refine ql (.pointer none) (by kernel_rfl) (by kernel_rfl) ?_
  refine ql (.bool true) (by kernel_rfl) (by kernel_rfl) ?_
  refine wpList_nil ?_
  refine x_then ?_
  refine wp_cond_true (by kernel_rfl) ?_
  refine wp_seq ?_
  refine wp_region_lit ?_
  refine ql (.pointer none) (by kernel_rfl) (by kernel_rfl) ?_
  refine wpList_nil ?_
  refine x_then ?_
  refine wp_ret ?_
  refine x_thenR ?_
  refine ret_ (.pointer none) (by kernel_rfl) ?_
  exact ⟨rfl, HS⟩

set_option maxRecDepth 100000 in
set_option maxHeartbeats 1000000 in
theorem turn_some (g N : Nat) (arcs : List (Int × Int)) (W : World) (hG : GAt W g N arcs) : Calls Try.prog 21 #[.pointer (some ⟨g, 0, none⟩)] W fun e W' => ∃ g', e = .returned (.pointer (some ⟨g', 0, none⟩)) ∧ St W (owns []) W' [] ∧ GAt W' g' N (arcs.map swap) := by
  have HS : St W (owns []) W [] := St.start W _
  have hG_ := hG
  obtain ⟨A1, c1, A2, c2, A3, c3, A4, c4, A5, c5, os, js, hB, r1, r2, r3, r4, r5, l1, l2, hF, hN, hm, k2, k3, k4, k5⟩ := hG_
  have b1 := bl_len N (keys false arcs)
  have b2 := bl_len N (keys true arcs)
  refine calls_enter ((.pointer (some ⟨g, 0, none⟩)) :: undef :: undef :: undef :: undef :: undef :: undef :: undef :: undef :: undef :: undef :: undef :: undef :: undef :: undef :: undef :: undef :: undef :: undef :: undef :: undef :: undef :: undef :: undef :: undef :: undef :: undef :: undef :: undef :: undef :: undef :: undef :: undef :: undef :: undef :: undef :: undef :: undef :: undef :: undef :: undef :: undef :: undef :: undef :: undef :: undef :: undef :: undef :: undef :: undef :: undef :: undef :: undef :: undef :: undef :: undef :: undef :: undef :: undef :: []) Try.func21 rfl (by kernel_rfl) ?_
  refine wp_seq ?_
  refine wp_region_lit ?_
  refine ql (.pointer none) (by kernel_rfl) (by kernel_rfl) ?_
  refine wpList_nil ?_
  refine x_then ?_
  refine wp_seq ?_
  refine wp_seq ?_
  refine wp_region_lit ?_
  refine ql (.pointer (some ⟨g, 0, none⟩)) (by kernel_rfl) (by kernel_rfl) ?_
  refine ql (.bool false) (by kernel_rfl) (by kernel_rfl) ?_
  refine wpList_nil ?_
  refine x_then ?_
  refine wp_cond_false (by kernel_rfl) ?_
  refine wp_skip ?_
  refine x_then ?_
  refine wp_seq ?_
  refine t_start HS (fun _ => False) 29 (by kernel_rfl) rfl ?_
  intro W1 H_ HD_
  clear HD_
  replace HS : St W (owns []) W1 [] := H_
  clear H_
  have HV := HS
  have HK := Kpt.refl (fun _ => False) W1
  refine t_q (n := 28) 0 (.pointer (some ⟨g, 0, none⟩)) rfl (by kernel_rfl) (by kernel_rfl) (fun _ _ _ h => h) (fun w' hk => (by kernel_rfl)) HK ?_
  refine t_q (n := 27) 1 (.pointer (some ⟨g, 0, none⟩)) rfl (by kernel_rfl) (by kernel_rfl) (fun _ _ _ h => h) (fun w' hk => (by kernel_rfl)) HK ?_
  refine t_q (n := 26) 2 (.pointer (some ⟨g, 0, none⟩)) rfl (by kernel_rfl) (by kernel_rfl) (fun _ _ _ h => h) (fun w' hk => (by kernel_rfl)) HK ?_
  refine t_q (n := 25) 3 (.int .i64 (N : Int)) rfl (by kernel_rfl) (by kernel_rfl) (fun _ _ _ h => h) (fun w' hk => (R_load (p := ⟨g, 0, none⟩) (by kernel_rfl) (by kernel_rfl) (by kernel_rfl) (hk.cell (HV.old0 (cell_at (j := 0) hB rfl))))) HK ?_
  refine t_q (n := 24) 4 (.pointer (some ⟨g, 0, none⟩)) rfl (by kernel_rfl) (by kernel_rfl) (fun _ _ _ h => h) (fun w' hk => (by kernel_rfl)) HK ?_
  refine t_q (n := 23) 5 (.pointer (some ⟨g, 0, none⟩)) rfl (by kernel_rfl) (by kernel_rfl) (fun _ _ _ h => h) (fun w' hk => (by kernel_rfl)) HK ?_
  refine t_q (n := 22) 6 (.pointer (some ⟨g, 1, none⟩)) rfl (by kernel_rfl) (by kernel_rfl) (fun _ _ _ h => h) (fun w' hk => (by kernel_rfl)) HK ?_
  refine t_q (n := 21) 7 (.slice A1 arcs.length c1) rfl (by kernel_rfl) (by kernel_rfl) (fun _ _ _ h => h) (fun w' hk => (R_load (p := ⟨g, 1, none⟩) (by kernel_rfl) (by kernel_rfl) (by kernel_rfl) (hk.cell (HV.old0 (cell_at (j := 1) hB rfl))))) HK ?_
  refine t_q (n := 20) 8 (.int .i64 (arcs.length : Int)) rfl (by kernel_rfl) (by kernel_rfl) (fun _ _ _ h => h) (fun w' hk => (by kernel_rfl)) HK ?_
  refine t_q (n := 19) 10 (.pointer (some ⟨g, 0, none⟩)) rfl (by kernel_rfl) (by kernel_rfl) (fun _ _ _ h => h) (fun w' hk => (by kernel_rfl)) HK ?_
  refine t_q (n := 18) 11 (.pointer (some ⟨g, 0, none⟩)) rfl (by kernel_rfl) (by kernel_rfl) (fun _ _ _ h => h) (fun w' hk => (by kernel_rfl)) HK ?_
  refine t_q (n := 17) 12 (.pointer (some ⟨g, 3, none⟩)) rfl (by kernel_rfl) (by kernel_rfl) (fun _ _ _ h => h) (fun w' hk => (by kernel_rfl)) HK ?_
  refine t_q (n := 16) 13 (.slice A3 arcs.length c3) rfl (by kernel_rfl) (by kernel_rfl) (fun _ _ _ h => h) (fun w' hk => (R_load (p := ⟨g, 3, none⟩) (by kernel_rfl) (by kernel_rfl) (by kernel_rfl) (hk.cell (HV.old0 (cell_at (j := 3) hB rfl))))) HK ?_
  refine t_q (n := 15) 14 (.pointer (some ⟨g, 0, none⟩)) rfl (by kernel_rfl) (by kernel_rfl) (fun _ _ _ h => h) (fun w' hk => (by kernel_rfl)) HK ?_
  refine t_q (n := 14) 15 (.pointer (some ⟨g, 0, none⟩)) rfl (by kernel_rfl) (by kernel_rfl) (fun _ _ _ h => h) (fun w' hk => (by kernel_rfl)) HK ?_
  refine t_q (n := 13) 16 (.pointer (some ⟨g, 2, none⟩)) rfl (by kernel_rfl) (by kernel_rfl) (fun _ _ _ h => h) (fun w' hk => (by kernel_rfl)) HK ?_
  refine t_q (n := 12) 17 (.slice A2 arcs.length c2) rfl (by kernel_rfl) (by kernel_rfl) (fun _ _ _ h => h) (fun w' hk => (R_load (p := ⟨g, 2, none⟩) (by kernel_rfl) (by kernel_rfl) (by kernel_rfl) (hk.cell (HV.old0 (cell_at (j := 2) hB rfl))))) HK ?_
  refine t_q (n := 11) 18 (.pointer (some ⟨g, 0, none⟩)) rfl (by kernel_rfl) (by kernel_rfl) (fun _ _ _ h => h) (fun w' hk => (by kernel_rfl)) HK ?_
  refine t_q (n := 10) 19 (.pointer (some ⟨g, 0, none⟩)) rfl (by kernel_rfl) (by kernel_rfl) (fun _ _ _ h => h) (fun w' hk => (by kernel_rfl)) HK ?_
  refine t_q (n := 9) 20 (.pointer (some ⟨g, 5, none⟩)) rfl (by kernel_rfl) (by kernel_rfl) (fun _ _ _ h => h) (fun w' hk => (by kernel_rfl)) HK ?_
  refine t_q (n := 8) 21 (.slice A5 (N + 1) c5) rfl (by kernel_rfl) (by kernel_rfl) (fun _ _ _ h => h) (fun w' hk => (R_load (p := ⟨g, 5, none⟩) (by kernel_rfl) (by kernel_rfl) (by kernel_rfl) (hk.cell (HV.old0 (cell_at (j := 5) hB rfl))))) HK ?_
  refine t_q (n := 7) 22 (.pointer (some ⟨g, 0, none⟩)) rfl (by kernel_rfl) (by kernel_rfl) (fun _ _ _ h => h) (fun w' hk => (by kernel_rfl)) HK ?_
  refine t_q (n := 6) 23 (.pointer (some ⟨g, 0, none⟩)) rfl (by kernel_rfl) (by kernel_rfl) (fun _ _ _ h => h) (fun w' hk => (by kernel_rfl)) HK ?_
  refine t_q (n := 5) 24 (.pointer (some ⟨g, 4, none⟩)) rfl (by kernel_rfl) (by kernel_rfl) (fun _ _ _ h => h) (fun w' hk => (by kernel_rfl)) HK ?_
  refine t_q (n := 4) 25 (.slice A4 (N + 1) c4) rfl (by kernel_rfl) (by kernel_rfl) (fun _ _ _ h => h) (fun w' hk => (R_load (p := ⟨g, 4, none⟩) (by kernel_rfl) (by kernel_rfl) (by kernel_rfl) (hk.cell (HV.old0 (cell_at (j := 4) hB rfl))))) HK ?_
  obtain ⟨g2, W3, hrun_, H_, hk_⟩ := ex_make (P := Try.prog) (ty := 65) (ps := "graph.go:127") (af := #[{ on := 8, ground := Go.Ground.data }, { on := 8, ground := Go.Ground.data }]) (gd := none) (dst := some 17) (t := 65) (x := (Go.Operand.tmp 16)) (y := (Go.Operand.tmp 16)) (k1 := .i64) (k2 := .i64) HS (arcs.length) [.int .i64 0, .int .i64 0] 16 (k_eq (m := (arcs.length : Int)) (by kernel_rfl) (by omega)) (k_eq (m := (arcs.length : Int)) (by kernel_rfl) (by omega)) Try.underlying65 (by kernel_rfl) (by kernel_rfl) (by kernel_rfl) (by decide) (by omega) (by omega)
  refine t_e (n := 3) 9 (.slice (some ⟨g2, 0, none⟩) arcs.length arcs.length) rfl (by kernel_rfl) (by kernel_rfl) hrun_ (HK.tr hk_) ?_
  replace HK := HK.tr hk_
  clear hk_
  clear hrun_
  replace HS : St W (owns []) W3 [row (some ⟨g2, 0, none⟩) arcs.length arcs.length (cf arcC (List.replicate arcs.length ((0, 0) : (Int × Int)))) 35 2] := H_.cast_ (by rw [cf_rep]; rfl)
  clear H_
  have rlg2 : (List.replicate arcs.length ((0, 0) : (Int × Int))).length = arcs.length := List.length_replicate
  refine t_q (n := 2) 26 (.agg #[.int .i64 (N : Int), .slice (some ⟨g2, 0, none⟩) arcs.length arcs.length, .slice A3 arcs.length c3, .slice A2 arcs.length c2, .slice A5 (N + 1) c5, .slice A4 (N + 1) c4]) rfl (by kernel_rfl) (by kernel_rfl) (fun _ _ _ h => h) (fun w' hk => (by kernel_rfl)) HK ?_
  obtain ⟨g4, W5, hg_, hw_, H_, hk_⟩ := ex_blk HS [.int .i64 (N : Int), .slice (some ⟨g2, 0, none⟩) arcs.length arcs.length, .slice A3 arcs.length c3, .slice A2 arcs.length c2, .slice A5 (N + 1) c5, .slice A4 (N + 1) c4] 69
  refine t_e (n := 1) 27 (.pointer (some ⟨g4, 0, none⟩)) rfl (by kernel_rfl) (by kernel_rfl) (by subst hg_; subst hw_; kernel_rfl) (HK.tr hk_) ?_
  replace HK := HK.tr hk_
  clear hk_
  clear hg_ hw_
  replace HS : St W (owns []) W5 [blk g4 [.int .i64 (N : Int), .slice (some ⟨g2, 0, none⟩) arcs.length arcs.length, .slice A3 arcs.length c3, .slice A2 arcs.length c2, .slice A5 (N + 1) c5, .slice A4 (N + 1) c4] 69, row (some ⟨g2, 0, none⟩) arcs.length arcs.length (cf arcC (List.replicate arcs.length ((0, 0) : (Int × Int)))) 35 2] := H_
  clear H_
  refine t_q (n := 0) 28 (.pointer (some ⟨g4, 0, none⟩)) rfl (by kernel_rfl) (by kernel_rfl) (fun _ _ _ h => h) (fun w' hk => (by kernel_rfl)) HK ?_
  refine t_done (by kernel_rfl) ?_
  clear HV HK
  refine x_then ?_
  refine wp_seq ?_
  refine wp_seq ?_
  refine wp_region_lit ?_
  refine ql (.pointer (some ⟨g, 0, none⟩)) (by kernel_rfl) (by kernel_rfl) ?_
  refine ql (.pointer (some ⟨g, 0, none⟩)) (by kernel_rfl) (by kernel_rfl) ?_
  refine ql (.pointer (some ⟨g, 1, none⟩)) (by kernel_rfl) (by kernel_rfl) ?_
  refine ql (.slice A1 arcs.length c1) (by kernel_rfl) (R_load (p := ⟨g, 1, none⟩) (by kernel_rfl) (by kernel_rfl) (by kernel_rfl) (HS.old0 (cell_at (j := 1) hB rfl))) ?_
  refine ql (.int .i64 (arcs.length : Int)) (by kernel_rfl) (by kernel_rfl) ?_
  refine ql (.int .i64 0) (by kernel_rfl) (by kernel_rfl) ?_
  refine wpList_nil ?_
  refine x_then ?_
  refine wp_block ?_
  refine wp_loop_ghost (fun kq a' w' => ∃ (J6 : Nat → Value) (q : Int) (xs : List (Int × Int)) , a' = Fr ((.pointer (some ⟨g, 0, none⟩)) :: undef :: (.pointer none) :: (.pointer (some ⟨g4, 0, none⟩)) :: ((J6 4)) :: ((J6 5)) :: (.pointer (some ⟨g, 0, none⟩)) :: (.bool false) :: (.pointer (some ⟨g, 0, none⟩)) :: (.pointer (some ⟨g, 0, none⟩)) :: (.pointer (some ⟨g, 0, none⟩)) :: (.int .i64 (N : Int)) :: (.pointer (some ⟨g, 0, none⟩)) :: (.pointer (some ⟨g, 0, none⟩)) :: (.pointer (some ⟨g, 1, none⟩)) :: (.slice A1 arcs.length c1) :: (.int .i64 (arcs.length : Int)) :: (.slice (some ⟨g2, 0, none⟩) arcs.length arcs.length) :: (.pointer (some ⟨g, 0, none⟩)) :: (.pointer (some ⟨g, 0, none⟩)) :: (.pointer (some ⟨g, 3, none⟩)) :: (.slice A3 arcs.length c3) :: (.pointer (some ⟨g, 0, none⟩)) :: (.pointer (some ⟨g, 0, none⟩)) :: (.pointer (some ⟨g, 2, none⟩)) :: (.slice A2 arcs.length c2) :: (.pointer (some ⟨g, 0, none⟩)) :: (.pointer (some ⟨g, 0, none⟩)) :: (.pointer (some ⟨g, 5, none⟩)) :: (.slice A5 (N + 1) c5) :: (.pointer (some ⟨g, 0, none⟩)) :: (.pointer (some ⟨g, 0, none⟩)) :: (.pointer (some ⟨g, 4, none⟩)) :: (.slice A4 (N + 1) c4) :: (.agg #[.int .i64 (N : Int), .slice (some ⟨g2, 0, none⟩) arcs.length arcs.length, .slice A3 arcs.length c3, .slice A2 arcs.length c2, .slice A5 (N + 1) c5, .slice A4 (N + 1) c4]) :: (.pointer (some ⟨g4, 0, none⟩)) :: (.pointer (some ⟨g, 0, none⟩)) :: (.pointer (some ⟨g, 0, none⟩)) :: (.pointer (some ⟨g, 1, none⟩)) :: (.slice A1 arcs.length c1) :: (.int .i64 (arcs.length : Int)) :: (.int .i64 q) :: ((J6 42)) :: ((J6 43)) :: ((J6 44)) :: ((J6 45)) :: ((J6 46)) :: ((J6 47)) :: ((J6 48)) :: ((J6 49)) :: ((J6 50)) :: ((J6 51)) :: ((J6 52)) :: ((J6 53)) :: ((J6 54)) :: ((J6 55)) :: ((J6 56)) :: ((J6 57)) :: undef :: []) ∧ kq = (arcs.length - (q).toNat) ∧ (0 ≤ q) ∧ (q ≤ arcs.length) ∧ (xs = (arcs.take (q).toNat).map swap ++ List.replicate (arcs.length - (q).toNat) (0, 0)) ∧ St W (owns []) w' [blk g4 [.int .i64 (N : Int), .slice (some ⟨g2, 0, none⟩) arcs.length arcs.length, .slice A3 arcs.length c3, .slice A2 arcs.length c2, .slice A5 (N + 1) c5, .slice A4 (N + 1) c4] 69, row (some ⟨g2, 0, none⟩) arcs.length arcs.length (cf arcC xs) 35 2]) (arcs.length - ((0 : Int)).toNat) ⟨(fun k_ : Nat => List.getD ((.pointer (some ⟨g, 0, none⟩)) :: undef :: (.pointer none) :: (.pointer (some ⟨g4, 0, none⟩)) :: undef :: undef :: (.pointer (some ⟨g, 0, none⟩)) :: (.bool false) :: (.pointer (some ⟨g, 0, none⟩)) :: (.pointer (some ⟨g, 0, none⟩)) :: (.pointer (some ⟨g, 0, none⟩)) :: (.int .i64 (N : Int)) :: (.pointer (some ⟨g, 0, none⟩)) :: (.pointer (some ⟨g, 0, none⟩)) :: (.pointer (some ⟨g, 1, none⟩)) :: (.slice A1 arcs.length c1) :: (.int .i64 (arcs.length : Int)) :: (.slice (some ⟨g2, 0, none⟩) arcs.length arcs.length) :: (.pointer (some ⟨g, 0, none⟩)) :: (.pointer (some ⟨g, 0, none⟩)) :: (.pointer (some ⟨g, 3, none⟩)) :: (.slice A3 arcs.length c3) :: (.pointer (some ⟨g, 0, none⟩)) :: (.pointer (some ⟨g, 0, none⟩)) :: (.pointer (some ⟨g, 2, none⟩)) :: (.slice A2 arcs.length c2) :: (.pointer (some ⟨g, 0, none⟩)) :: (.pointer (some ⟨g, 0, none⟩)) :: (.pointer (some ⟨g, 5, none⟩)) :: (.slice A5 (N + 1) c5) :: (.pointer (some ⟨g, 0, none⟩)) :: (.pointer (some ⟨g, 0, none⟩)) :: (.pointer (some ⟨g, 4, none⟩)) :: (.slice A4 (N + 1) c4) :: (.agg #[.int .i64 (N : Int), .slice (some ⟨g2, 0, none⟩) arcs.length arcs.length, .slice A3 arcs.length c3, .slice A2 arcs.length c2, .slice A5 (N + 1) c5, .slice A4 (N + 1) c4]) :: (.pointer (some ⟨g4, 0, none⟩)) :: (.pointer (some ⟨g, 0, none⟩)) :: (.pointer (some ⟨g, 0, none⟩)) :: (.pointer (some ⟨g, 1, none⟩)) :: (.slice A1 arcs.length c1) :: (.int .i64 (arcs.length : Int)) :: (.int .i64 0) :: undef :: undef :: undef :: undef :: undef :: undef :: undef :: undef :: undef :: undef :: undef :: undef :: undef :: undef :: undef :: undef :: undef :: []) k_ undef), (0 : Int), List.replicate arcs.length ((0, 0) : (Int × Int)), congrArg Fr (by kernel_rfl), rfl, by omega, by omega, by simp, HS⟩ ?_
  clear HS
  intro kq7 a' W8 hrel
  obtain ⟨J6, q, xs, rfl, hk, q0, q1, hx, HS⟩ := hrel
  have hxl : xs.length = arcs.length := by rw [hx, List.length_append, List.length_map, List.length_take, List.length_replicate]; omega
  refine wp_seq ?_
  refine wp_region_lit ?_
  by_cases hc9 : q < (arcs.length : Int)
  · skip
    refine ql (.bool true) (by kernel_rfl) (R_bool (p := q < (arcs.length : Int)) (by kernel_rfl) (hc9)) ?_
    refine wpList_nil ?_
    refine x_then ?_
    refine wp_seq ?_
    refine wp_cond_true (by kernel_rfl) ?_
    refine wp_skip ?_
    refine x_then ?_
    refine wp_seq ?_
    refine wp_block ?_
    refine wp_seq ?_
    refine wp_region_lit ?_
    refine ql (.int .i64 q) (by kernel_rfl) (by kernel_rfl) ?_
    obtain ⟨ad10, rfl⟩ := Rd.isSome_ r1 (by rw [cf_len (z := 2) (fun _ => rfl)]; omega)
    refine ql (.pointer (some (ad10.add (q.toNat * 2)))) (by kernel_rfl) (R_indexA (k := .i64) (p := ad10) (n := arcs.length) (c := c1) (i := q) (by kernel_rfl) (by kernel_rfl) Try.underlying65 (by kernel_rfl) (by omega) (by omega)) ?_
    refine ql (.agg #[.int .i64 ((gx arcs q).1), .int .i64 ((gx arcs q).2)]) (by kernel_rfl) (R_loadN (p := ad10.add (q.toNat * 2)) [.int .i64 ((gx arcs q).1), .int .i64 ((gx arcs q).2)] (by kernel_rfl) (by kernel_rfl) (by kernel_rfl) (by kernel_rfl) (HS.oldN (Rd.elem (f := arcC) (fun _ => rfl) r1 (gx_eq (by omega) (by omega))))) ?_
    refine kb HS [.int .i64 0, .int .i64 0] 35 (fun g => .pointer (some ⟨g, 0, none⟩)) (by kernel_rfl) (by kernel_rfl) ?_
    intro g11 W12 H_
    replace HS : St W (owns []) W12 [blk g11 [.int .i64 0, .int .i64 0] 35, blk g4 [.int .i64 (N : Int), .slice (some ⟨g2, 0, none⟩) arcs.length arcs.length, .slice A3 arcs.length c3, .slice A2 arcs.length c2, .slice A5 (N + 1) c5, .slice A4 (N + 1) c4] 69, row (some ⟨g2, 0, none⟩) arcs.length arcs.length (cf arcC xs) 35 2] := H_
    clear H_
    refine ql (.int .i64 q) (by kernel_rfl) (by kernel_rfl) ?_
    refine ks (v := .agg #[.int .i64 ((gx arcs q).1), .int .i64 ((gx arcs q).2)]) HS 0 rfl (0) [.int .i64 ((gx arcs q).1), .int .i64 ((gx arcs q).2)] (by kernel_rfl) (by kernel_rfl) (by kernel_rfl) (by kernel_rfl) (by kernel_rfl) (one_ (by kernel_rfl)) (Nat.le_of_ble_eq_true rfl) rfl ?_
    intro W13 H_
    replace HS : St W (owns []) W13 [blk g11 [.int .i64 ((gx arcs q).1), .int .i64 ((gx arcs q).2)] 35, blk g4 [.int .i64 (N : Int), .slice (some ⟨g2, 0, none⟩) arcs.length arcs.length, .slice A3 arcs.length c3, .slice A2 arcs.length c2, .slice A5 (N + 1) c5, .slice A4 (N + 1) c4] 69, row (some ⟨g2, 0, none⟩) arcs.length arcs.length (cf arcC xs) 35 2] := H_
    clear H_
    refine wpList_nil ?_
    refine x_then ?_
    refine rg_still HS 11 (by kernel_rfl) (by kernel_rfl) ?_
    intro W14 H_ HK_
    simp only [List.take_succ_cons, List.take_zero, List.drop_succ_cons, List.drop_zero]
    replace HS : St W (owns []) W14 [blk g11 [.int .i64 ((gx arcs q).1), .int .i64 ((gx arcs q).2)] 35, blk g4 [.int .i64 (N : Int), .slice (some ⟨g2, 0, none⟩) arcs.length arcs.length, .slice A3 arcs.length c3, .slice A2 arcs.length c2, .slice A5 (N + 1) c5, .slice A4 (N + 1) c4] 69, row (some ⟨g2, 0, none⟩) arcs.length arcs.length (cf arcC xs) 35 2] := H_
    clear H_
    clear HK_
    refine qs (.pointer (some ⟨g4, 0, none⟩)) (by kernel_rfl) (by kernel_rfl) ?_
    refine qs (.pointer (some ⟨g4, 0, none⟩)) (by kernel_rfl) (by kernel_rfl) ?_
    refine qs (.pointer (some ⟨g4, 1, none⟩)) (by kernel_rfl) (by kernel_rfl) ?_
    refine qs (.slice (some ⟨g2, 0, none⟩) arcs.length arcs.length) (by kernel_rfl) (R_load (p := ⟨g4, 1, none⟩) (by kernel_rfl) (by kernel_rfl) (by kernel_rfl) (HS.cell (i := 1) (j := 1) rfl rfl)) ?_
    refine qs (.int .i64 q) (by kernel_rfl) (by kernel_rfl) ?_
    refine qs (.pointer (some ⟨g11, 1, none⟩)) (by kernel_rfl) (by kernel_rfl) ?_
    refine qs (.int .i64 ((gx arcs q).2)) (by kernel_rfl) (R_load (p := ⟨g11, 1, none⟩) (by kernel_rfl) (by kernel_rfl) (by kernel_rfl) (HS.cell (i := 0) (j := 1) rfl rfl)) ?_
    refine qs (.pointer (some ⟨g11, 0, none⟩)) (by kernel_rfl) (by kernel_rfl) ?_
    refine qs (.int .i64 ((gx arcs q).1)) (by kernel_rfl) (R_load (p := ⟨g11, 0, none⟩) (by kernel_rfl) (by kernel_rfl) (by kernel_rfl) (HS.cell (i := 0) (j := 0) rfl rfl)) ?_
    refine qs (.agg #[.int .i64 ((gx arcs q).2), .int .i64 ((gx arcs q).1)]) (by kernel_rfl) (by kernel_rfl) ?_
    refine qs (.pointer (some ⟨g2, q.toNat * 2, none⟩)) (by kernel_rfl) (R_index (k := .i64) (g := g2) (n := arcs.length) (c := arcs.length) (i := q) (by kernel_rfl) (by kernel_rfl) Try.underlying65 (by kernel_rfl) (by omega) (by omega)) ?_
    refine wpStill_nil ?_
    refine kr (v := .agg #[.int .i64 ((gx arcs q).2), .int .i64 ((gx arcs q).1)]) HS 2 rfl (q.toNat * 2) [.int .i64 ((gx arcs q).2), .int .i64 ((gx arcs q).1)] (by kernel_rfl) (by kernel_rfl) (by kernel_rfl) (by kernel_rfl) (by kernel_rfl) (one_ (by kernel_rfl)) (by rw [cf_len (z := 2) (fun _ => rfl)]; simp only [List.length_cons, List.length_nil]; omega) rfl ?_
    intro W15 H_
    obtain ⟨xs16, xs16_⟩ : ∃ z_ : List (Int × Int), z_ = (xs).set q.toNat ((gx arcs q).2, (gx arcs q).1) := ⟨_, rfl⟩
    replace HS : St W (owns []) W15 [blk g11 [.int .i64 ((gx arcs q).1), .int .i64 ((gx arcs q).2)] 35, blk g4 [.int .i64 (N : Int), .slice (some ⟨g2, 0, none⟩) arcs.length arcs.length, .slice A3 arcs.length c3, .slice A2 arcs.length c2, .slice A5 (N + 1) c5, .slice A4 (N + 1) c4] 69, row (some ⟨g2, 0, none⟩) arcs.length arcs.length (cf arcC xs16) 35 2] := H_.cast_ (by rw [xs16_, ← cf_set (z := 2) (fun _ => rfl) (by decide) _ _ _ (by omega)]; rfl)
    clear H_
    have xs16l : xs16.length = arcs.length := by rw [xs16_, List.length_set]; first | done | omega
    refine wpList_nil ?_
    refine x_inb ?_
    refine x_then ?_
    refine wp_region_lit ?_
    refine ql (.int .i64 (q + 1)) (by kernel_rfl) (R_int (by kernel_rfl) (w64 (by omega))) ?_
    refine ql (.int .i64 (q + 1)) (by kernel_rfl) (by kernel_rfl) ?_
    refine wpList_nil ?_
    replace HS := HS.drop1
    have hst := swap_step hx xs16_ q0 (by omega)
    refine x_then ?_
    exact ⟨arcs.length - (q + 1).toNat, by omega, (fun k_ : Nat => List.getD ((.pointer (some ⟨g, 0, none⟩)) :: undef :: (.pointer none) :: (.pointer (some ⟨g4, 0, none⟩)) :: (.int .i64 q) :: (.pointer (some ⟨g11, 0, none⟩)) :: (.pointer (some ⟨g, 0, none⟩)) :: (.bool false) :: (.pointer (some ⟨g, 0, none⟩)) :: (.pointer (some ⟨g, 0, none⟩)) :: (.pointer (some ⟨g, 0, none⟩)) :: (.int .i64 (N : Int)) :: (.pointer (some ⟨g, 0, none⟩)) :: (.pointer (some ⟨g, 0, none⟩)) :: (.pointer (some ⟨g, 1, none⟩)) :: (.slice (some ad10) arcs.length c1) :: (.int .i64 (arcs.length : Int)) :: (.slice (some ⟨g2, 0, none⟩) arcs.length arcs.length) :: (.pointer (some ⟨g, 0, none⟩)) :: (.pointer (some ⟨g, 0, none⟩)) :: (.pointer (some ⟨g, 3, none⟩)) :: (.slice A3 arcs.length c3) :: (.pointer (some ⟨g, 0, none⟩)) :: (.pointer (some ⟨g, 0, none⟩)) :: (.pointer (some ⟨g, 2, none⟩)) :: (.slice A2 arcs.length c2) :: (.pointer (some ⟨g, 0, none⟩)) :: (.pointer (some ⟨g, 0, none⟩)) :: (.pointer (some ⟨g, 5, none⟩)) :: (.slice A5 (N + 1) c5) :: (.pointer (some ⟨g, 0, none⟩)) :: (.pointer (some ⟨g, 0, none⟩)) :: (.pointer (some ⟨g, 4, none⟩)) :: (.slice A4 (N + 1) c4) :: (.agg #[.int .i64 (N : Int), .slice (some ⟨g2, 0, none⟩) arcs.length arcs.length, .slice A3 arcs.length c3, .slice A2 arcs.length c2, .slice A5 (N + 1) c5, .slice A4 (N + 1) c4]) :: (.pointer (some ⟨g4, 0, none⟩)) :: (.pointer (some ⟨g, 0, none⟩)) :: (.pointer (some ⟨g, 0, none⟩)) :: (.pointer (some ⟨g, 1, none⟩)) :: (.slice (some ad10) arcs.length c1) :: (.int .i64 (arcs.length : Int)) :: (.int .i64 (q + 1)) :: (.bool true) :: (.int .i64 q) :: (.pointer (some (ad10.add (q.toNat * 2)))) :: (.agg #[.int .i64 ((gx arcs q).1), .int .i64 ((gx arcs q).2)]) :: (.pointer (some ⟨g4, 0, none⟩)) :: (.pointer (some ⟨g4, 0, none⟩)) :: (.pointer (some ⟨g4, 1, none⟩)) :: (.slice (some ⟨g2, 0, none⟩) arcs.length arcs.length) :: (.int .i64 q) :: (.pointer (some ⟨g11, 1, none⟩)) :: (.int .i64 ((gx arcs q).2)) :: (.pointer (some ⟨g11, 0, none⟩)) :: (.int .i64 ((gx arcs q).1)) :: (.agg #[.int .i64 ((gx arcs q).2), .int .i64 ((gx arcs q).1)]) :: (.pointer (some ⟨g2, q.toNat * 2, none⟩)) :: (.int .i64 (q + 1)) :: undef :: []) k_ undef), q + 1, xs16, congrArg Fr (by kernel_rfl), rfl, by omega, by omega, hst, HS⟩
  · skip
    have hxe : xs = arcs.map swap := by rw [hx, List.take_of_length_le (by omega), show arcs.length - q.toNat = 0 by omega, List.replicate_zero, List.append_nil]
    refine ql (.bool false) (by kernel_rfl) (R_nbool (p := q < (arcs.length : Int)) (by kernel_rfl) (hc9)) ?_
    refine wpList_nil ?_
    refine x_then ?_
    refine wp_seq ?_
    refine wp_cond_false (by kernel_rfl) ?_
    refine wp_exit ?_
    refine x_thenE ?_
    refine x_thenE ?_
    refine x_hit ?_
    refine x_then ?_
    refine wp_seq ?_
    refine wp_region_lit ?_
    refine ql (.pointer (some ⟨g4, 0, none⟩)) (by kernel_rfl) (by kernel_rfl) ?_
    refine ql (.pointer (some ⟨g4, 0, none⟩)) (by kernel_rfl) (by kernel_rfl) ?_
    refine wpList_nil ?_
    refine x_then ?_
    refine wp_ret ?_
    refine ret_ (.pointer (some ⟨g4, 0, none⟩)) (by kernel_rfl) ?_
    subst hxe
    have hml : (arcs.map swap).length = arcs.length := List.length_map _
    refine ⟨g4, rfl, HS.tail (F := [blk g4 [.int .i64 (N : Int), .slice (some ⟨g2, 0, none⟩) arcs.length arcs.length, .slice A3 arcs.length c3, .slice A2 arcs.length c2, .slice A5 (N + 1) c5, .slice A4 (N + 1) c4] 69, row (some ⟨g2, 0, none⟩) arcs.length arcs.length (cf arcC (arcs.map swap)) 35 2]), ?_⟩
    have hB2 := HS.blkE (i := 0) rfl
    refine ⟨_, _, _, _, _, _, _, _, _, _, js, os, by rw [hml]; exact hB2, Rd.row HS (i := 1) rfl, r3.old0 HS, r2.old0 HS, by rw [keys_swap]; exact r5.old0 HS, by rw [keys_swap]; exact r4.old0 HS, by rw [keys_swap, hml]; exact l2, by rw [keys_swap, hml]; exact l1, fine_swap hF, hN, by rw [hml]; exact hm, by rw [hml]; exact k3, by rw [hml]; exact k2, k5, k4⟩

def NewP (W : World) (n : Int) (arcs : List (Int × Int)) (e : Ending) (W' : World) : Prop :=
  (chk n arcs = 0 ∧ ∃ (g N : Nat), n = (N : Int) ∧ e = .returned (.tuple #[.pointer (some ⟨g, 0, none⟩), .int .i64 0]) ∧ St W (owns []) W' [] ∧ GAt W' g N arcs) ∨ (chk n arcs ≠ 0 ∧ e = .returned (.tuple #[.pointer none, .int .i64 (chk n arcs)]) ∧ St W (owns []) W' [])

set_option maxRecDepth 100000 in
set_option maxHeartbeats 1000000 in
theorem new_neg (n : Int) (A : Option Addr) (c : Nat) (arcs : List (Int × Int)) (W : World) (hr : Rd W A (cf arcC arcs)) (hl : arcs.length ≤ 1099511627776) (hn : n < 0) : Calls Try.prog 49 #[.int .i64 n, .slice A arcs.length c] W fun e W' => NewP W n arcs e W' := by
  have HS : St W (owns []) W [] := St.start W _
  refine calls_enter ((.int .i64 n) :: (.slice A arcs.length c) :: undef :: undef :: undef :: undef :: undef :: undef :: undef :: undef :: undef :: undef :: undef :: undef :: undef :: undef :: undef :: undef :: undef :: undef :: undef :: undef :: undef :: undef :: undef :: undef :: undef :: undef :: undef :: undef :: undef :: undef :: undef :: undef :: undef :: undef :: undef :: undef :: undef :: undef :: undef :: undef :: undef :: undef :: undef :: undef :: undef :: undef :: undef :: undef :: undef :: undef :: undef :: undef :: undef :: undef :: undef :: undef :: undef :: undef :: undef :: undef :: undef :: undef :: undef :: undef :: undef :: undef :: undef :: undef :: undef :: undef :: undef :: undef :: undef :: undef :: undef :: undef :: undef :: undef :: undef :: undef :: undef :: []) Try.func49 rfl (by kernel_rfl) ?_
  refine wp_seq ?_
  refine wp_region_lit ?_
  refine ql (.pointer none) (by kernel_rfl) (by kernel_rfl) ?_
  refine ql (.int .i64 0) (by kernel_rfl) (by kernel_rfl) ?_
  refine wpList_nil ?_
  refine x_then ?_
  refine wp_seq ?_
  refine wp_block ?_
  refine wp_seq ?_
  refine wp_region_lit ?_
  refine ql (.int .i64 n) (by kernel_rfl) (by kernel_rfl) ?_
  refine ql (.bool true) (by kernel_rfl) (R_bool (p := n < (0 : Int)) (by kernel_rfl) (by omega)) ?_
  refine ql (.bool true) (by kernel_rfl) (by kernel_rfl) ?_
  refine wpList_nil ?_
  refine x_then ?_
  refine wp_cond_true (by kernel_rfl) ?_
  refine wp_seq ?_
  refine wp_region_lit ?_
  refine ql (.pointer none) (by kernel_rfl) (by kernel_rfl) ?_
  refine ql (.int .i64 2) (by kernel_rfl) (by kernel_rfl) ?_
  refine wpList_nil ?_
  refine x_then ?_
  refine wp_ret ?_
  refine x_inbR ?_
  refine x_thenR ?_
  refine ret_ (.tuple #[.pointer none, .int .i64 2]) (by kernel_rfl) ?_
  exact .inr ⟨by rw [chk2 (by omega)]; decide, by rw [chk2 (by omega)], HS.tail (F := [])⟩

set_option maxRecDepth 100000 in
set_option maxHeartbeats 1000000 in
theorem new_nat (N : Nat) (A : Option Addr) (c : Nat) (arcs : List (Int × Int)) (W : World) (hr : Rd W A (cf arcC arcs)) (hl : arcs.length ≤ 1099511627776) : Calls Try.prog 49 #[.int .i64 (N : Int), .slice A arcs.length c] W fun e W' => NewP W (N : Int) arcs e W' := by
  have HS : St W (owns []) W [] := St.start W _
  refine calls_enter ((.int .i64 (N : Int)) :: (.slice A arcs.length c) :: undef :: undef :: undef :: undef :: undef :: undef :: undef :: undef :: undef :: undef :: undef :: undef :: undef :: undef :: undef :: undef :: undef :: undef :: undef :: undef :: undef :: undef :: undef :: undef :: undef :: undef :: undef :: undef :: undef :: undef :: undef :: undef :: undef :: undef :: undef :: undef :: undef :: undef :: undef :: undef :: undef :: undef :: undef :: undef :: undef :: undef :: undef :: undef :: undef :: undef :: undef :: undef :: undef :: undef :: undef :: undef :: undef :: undef :: undef :: undef :: undef :: undef :: undef :: undef :: undef :: undef :: undef :: undef :: undef :: undef :: undef :: undef :: undef :: undef :: undef :: undef :: undef :: undef :: undef :: undef :: undef :: []) Try.func49 rfl (by kernel_rfl) ?_
  refine wp_seq ?_
  refine wp_region_lit ?_
  refine ql (.pointer none) (by kernel_rfl) (by kernel_rfl) ?_
  refine ql (.int .i64 0) (by kernel_rfl) (by kernel_rfl) ?_
  refine wpList_nil ?_
  refine x_then ?_
  refine wp_seq ?_
  refine wp_block ?_
  refine wp_seq ?_
  refine wp_region_lit ?_
  refine ql (.int .i64 (N : Int)) (by kernel_rfl) (by kernel_rfl) ?_
  refine ql (.bool false) (by kernel_rfl) (R_nbool (p := (N : Int) < (0 : Int)) (by kernel_rfl) (by omega)) ?_
  refine ql (.bool false) (by kernel_rfl) (by kernel_rfl) ?_
  refine wpList_nil ?_
  refine x_then ?_
  refine wp_cond_false (by kernel_rfl) ?_
  refine wp_seq ?_
  refine wp_region_lit ?_
  refine ql (.int .i64 (N : Int)) (by kernel_rfl) (by kernel_rfl) ?_
  by_cases hc1 : (N : Int) > (1048576 : Int)
  · skip
    refine ql (.bool true) (by kernel_rfl) (R_bool (p := (N : Int) > (1048576 : Int)) (by kernel_rfl) (hc1)) ?_
    refine ql (.bool true) (by kernel_rfl) (by kernel_rfl) ?_
    refine qln (by kernel_rfl) ?_
    refine qln (by kernel_rfl) ?_
    refine qln (by kernel_rfl) ?_
    refine ql (.bool true) (by kernel_rfl) (by kernel_rfl) ?_
    refine ql (.bool true) (by kernel_rfl) (by kernel_rfl) ?_
    refine wpList_nil ?_
    refine x_then ?_
    refine wp_cond_true (by kernel_rfl) ?_
    refine wp_seq ?_
    refine wp_region_lit ?_
    refine ql (.pointer none) (by kernel_rfl) (by kernel_rfl) ?_
    refine ql (.int .i64 5) (by kernel_rfl) (by kernel_rfl) ?_
    refine wpList_nil ?_
    refine x_then ?_
    refine wp_ret ?_
    refine x_inbR ?_
    refine x_thenR ?_
    refine ret_ (.tuple #[.pointer none, .int .i64 5]) (by kernel_rfl) ?_
    exact .inr ⟨by rw [chk5 (by omega) (by omega)]; decide, by rw [chk5 (by omega) (by omega)], HS.tail (F := [])⟩
  · skip
    refine ql (.bool false) (by kernel_rfl) (R_nbool (p := (N : Int) > (1048576 : Int)) (by kernel_rfl) (hc1)) ?_
    refine ql (.bool false) (by kernel_rfl) (by kernel_rfl) ?_
    refine ql (.slice A arcs.length c) (by kernel_rfl) (by kernel_rfl) ?_
    refine ql (.int .i64 (arcs.length : Int)) (by kernel_rfl) (by kernel_rfl) ?_
    by_cases hc2 : (arcs.length : Int) > (67108864 : Int)
    · skip
      refine ql (.bool true) (by kernel_rfl) (R_bool (p := (arcs.length : Int) > (67108864 : Int)) (by kernel_rfl) (hc2)) ?_
      refine ql (.bool true) (by kernel_rfl) (by kernel_rfl) ?_
      refine ql (.bool true) (by kernel_rfl) (by kernel_rfl) ?_
      refine wpList_nil ?_
      refine x_then ?_
      refine wp_cond_true (by kernel_rfl) ?_
      refine wp_seq ?_
      refine wp_region_lit ?_
      refine ql (.pointer none) (by kernel_rfl) (by kernel_rfl) ?_
      refine ql (.int .i64 5) (by kernel_rfl) (by kernel_rfl) ?_
      refine wpList_nil ?_
      refine x_then ?_
      refine wp_ret ?_
      refine x_inbR ?_
      refine x_thenR ?_
      refine ret_ (.tuple #[.pointer none, .int .i64 5]) (by kernel_rfl) ?_
      exact .inr ⟨by rw [chk5 (by omega) (by omega)]; decide, by rw [chk5 (by omega) (by omega)], HS.tail (F := [])⟩
    · skip
      refine ql (.bool false) (by kernel_rfl) (R_nbool (p := (arcs.length : Int) > (67108864 : Int)) (by kernel_rfl) (hc2)) ?_
      refine ql (.bool false) (by kernel_rfl) (by kernel_rfl) ?_
      refine ql (.bool false) (by kernel_rfl) (by kernel_rfl) ?_
      refine wpList_nil ?_
      refine x_then ?_
      refine wp_cond_false (by kernel_rfl) ?_
      refine wp_skip ?_
      refine x_inb ?_
      refine x_then ?_
      refine wp_seq ?_
      refine wp_seq ?_
      refine wp_region_lit ?_
      refine ql (.slice A arcs.length c) (by kernel_rfl) (by kernel_rfl) ?_
      refine ql (.int .i64 (arcs.length : Int)) (by kernel_rfl) (by kernel_rfl) ?_
      refine ql (.int .i64 0) (by kernel_rfl) (by kernel_rfl) ?_
      refine wpList_nil ?_
      refine x_then ?_
      refine wp_block ?_
      refine wp_loop_ghost (fun kq a' w' => ∃ (J3 : Nat → Value) (q : Int) , a' = Fr ((.int .i64 (N : Int)) :: (.slice A arcs.length c) :: undef :: undef :: ((J3 4)) :: ((J3 5)) :: undef :: ((J3 7)) :: undef :: (.bool false) :: (.int .i64 (N : Int)) :: (.bool false) :: (.bool false) :: (.int .i64 (N : Int)) :: (.bool false) :: (.bool false) :: (.slice A arcs.length c) :: (.int .i64 (arcs.length : Int)) :: (.bool false) :: (.bool false) :: (.slice A arcs.length c) :: (.int .i64 (arcs.length : Int)) :: (.int .i64 q) :: ((J3 23)) :: ((J3 24)) :: ((J3 25)) :: ((J3 26)) :: ((J3 27)) :: ((J3 28)) :: ((J3 29)) :: ((J3 30)) :: ((J3 31)) :: ((J3 32)) :: ((J3 33)) :: ((J3 34)) :: ((J3 35)) :: ((J3 36)) :: ((J3 37)) :: ((J3 38)) :: ((J3 39)) :: ((J3 40)) :: ((J3 41)) :: ((J3 42)) :: ((J3 43)) :: ((J3 44)) :: ((J3 45)) :: ((J3 46)) :: undef :: undef :: undef :: undef :: undef :: undef :: undef :: undef :: undef :: undef :: undef :: undef :: undef :: undef :: undef :: undef :: undef :: undef :: undef :: undef :: undef :: undef :: undef :: undef :: undef :: undef :: undef :: undef :: undef :: undef :: undef :: undef :: undef :: undef :: undef :: undef :: []) ∧ kq = (arcs.length - (q).toNat) ∧ (0 ≤ q) ∧ (q ≤ arcs.length) ∧ (Fine N (arcs.take (q).toNat)) ∧ St W (owns []) w' []) (arcs.length - ((0 : Int)).toNat) ⟨(fun k_ : Nat => List.getD ((.int .i64 (N : Int)) :: (.slice A arcs.length c) :: undef :: undef :: (.pointer none) :: (.int .i64 0) :: undef :: undef :: undef :: (.bool false) :: (.int .i64 (N : Int)) :: (.bool false) :: (.bool false) :: (.int .i64 (N : Int)) :: (.bool false) :: (.bool false) :: (.slice A arcs.length c) :: (.int .i64 (arcs.length : Int)) :: (.bool false) :: (.bool false) :: (.slice A arcs.length c) :: (.int .i64 (arcs.length : Int)) :: (.int .i64 0) :: undef :: undef :: undef :: undef :: undef :: undef :: undef :: undef :: undef :: undef :: undef :: undef :: undef :: undef :: undef :: undef :: undef :: undef :: undef :: undef :: undef :: undef :: undef :: undef :: undef :: undef :: undef :: undef :: undef :: undef :: undef :: undef :: undef :: undef :: undef :: undef :: undef :: undef :: undef :: undef :: undef :: undef :: undef :: undef :: undef :: undef :: undef :: undef :: undef :: undef :: undef :: undef :: undef :: undef :: undef :: undef :: undef :: undef :: undef :: undef :: []) k_ undef), (0 : Int), congrArg Fr (by kernel_rfl), rfl, by omega, by omega, by intro a ha; simp at ha, HS⟩ ?_
      clear HS
      intro kq4 a' W5 hrel
      obtain ⟨J3, q, rfl, hk, q0, q1, hf, HS⟩ := hrel
      refine wp_seq ?_
      refine wp_region_lit ?_
      by_cases hc6 : q < (arcs.length : Int)
      · skip
        refine ql (.bool true) (by kernel_rfl) (R_bool (p := q < (arcs.length : Int)) (by kernel_rfl) (hc6)) ?_
        refine wpList_nil ?_
        refine x_then ?_
        refine wp_seq ?_
        refine wp_cond_true (by kernel_rfl) ?_
        refine wp_skip ?_
        refine x_then ?_
        refine wp_seq ?_
        refine wp_block ?_
        refine wp_seq ?_
        refine wp_region_lit ?_
        obtain ⟨ad7, rfl⟩ := Rd.isSome_ hr (by rw [cf_len (z := 2) (fun _ => rfl)]; omega)
        refine ql (.pointer (some (ad7.add (q.toNat * 2)))) (by kernel_rfl) (R_indexA (k := .i64) (p := ad7) (n := arcs.length) (c := c) (i := q) (by kernel_rfl) (by kernel_rfl) Try.underlying65 (by kernel_rfl) (by omega) (by omega)) ?_
        refine ql (.agg #[.int .i64 ((gx arcs q).1), .int .i64 ((gx arcs q).2)]) (by kernel_rfl) (R_loadN (p := ad7.add (q.toNat * 2)) [.int .i64 ((gx arcs q).1), .int .i64 ((gx arcs q).2)] (by kernel_rfl) (by kernel_rfl) (by kernel_rfl) (by kernel_rfl) (HS.oldN (Rd.elem (f := arcC) (fun _ => rfl) hr (gx_eq (by omega) (by omega))))) ?_
        refine kb HS [.int .i64 0, .int .i64 0] 35 (fun g => .pointer (some ⟨g, 0, none⟩)) (by kernel_rfl) (by kernel_rfl) ?_
        intro g8 W9 H_
        replace HS : St W (owns []) W9 [blk g8 [.int .i64 0, .int .i64 0] 35] := H_
        clear H_
        refine ks (v := .agg #[.int .i64 ((gx arcs q).1), .int .i64 ((gx arcs q).2)]) HS 0 rfl (0) [.int .i64 ((gx arcs q).1), .int .i64 ((gx arcs q).2)] (by kernel_rfl) (by kernel_rfl) (by kernel_rfl) (by kernel_rfl) (by kernel_rfl) (one_ (by kernel_rfl)) (Nat.le_of_ble_eq_true rfl) rfl ?_
        intro W10 H_
        replace HS : St W (owns []) W10 [blk g8 [.int .i64 ((gx arcs q).1), .int .i64 ((gx arcs q).2)] 35] := H_
        clear H_
        refine wpList_nil ?_
        refine x_then ?_
        refine wp_seq ?_
        refine wp_region_lit ?_
        refine ql (.pointer (some ⟨g8, 0, none⟩)) (by kernel_rfl) (by kernel_rfl) ?_
        refine ql (.int .i64 ((gx arcs q).1)) (by kernel_rfl) (R_load (p := ⟨g8, 0, none⟩) (by kernel_rfl) (by kernel_rfl) (by kernel_rfl) (HS.cell (i := 0) (j := 0) rfl rfl)) ?_
        by_cases hc11 : ((gx arcs q).1) < (0 : Int)
        · skip
          refine ql (.bool true) (by kernel_rfl) (R_bool (p := ((gx arcs q).1) < (0 : Int)) (by kernel_rfl) (hc11)) ?_
          refine ql (.bool true) (by kernel_rfl) (by kernel_rfl) ?_
          refine qln (by kernel_rfl) ?_
          refine qln (by kernel_rfl) ?_
          refine qln (by kernel_rfl) ?_
          refine qln (by kernel_rfl) ?_
          refine ql (.bool true) (by kernel_rfl) (by kernel_rfl) ?_
          refine ql (.bool true) (by kernel_rfl) (by kernel_rfl) ?_
          refine qln (by kernel_rfl) ?_
          refine qln (by kernel_rfl) ?_
          refine qln (by kernel_rfl) ?_
          refine ql (.bool true) (by kernel_rfl) (by kernel_rfl) ?_
          refine ql (.bool true) (by kernel_rfl) (by kernel_rfl) ?_
          refine qln (by kernel_rfl) ?_
          refine qln (by kernel_rfl) ?_
          refine qln (by kernel_rfl) ?_
          refine qln (by kernel_rfl) ?_
          refine ql (.bool true) (by kernel_rfl) (by kernel_rfl) ?_
          refine wpList_nil ?_
          refine x_then ?_
          refine wp_cond_true (by kernel_rfl) ?_
          refine wp_seq ?_
          refine wp_region_lit ?_
          refine ql (.pointer none) (by kernel_rfl) (by kernel_rfl) ?_
          refine ql (.int .i64 7) (by kernel_rfl) (by kernel_rfl) ?_
          refine wpList_nil ?_
          refine x_then ?_
          refine wp_ret ?_
          refine x_inbR ?_
          refine x_thenR ?_
          refine x_thenR ?_
          refine x_inbR ?_
          refine x_thenR ?_
          refine ret_ (.tuple #[.pointer none, .int .i64 7]) (by kernel_rfl) ?_
          exact .inr ⟨by rw [chk7 (i := q) (by omega) (by omega) q0 (by omega) (by omega)]; decide, by rw [chk7 (i := q) (by omega) (by omega) q0 (by omega) (by omega)], HS.tail (F := [blk g8 [.int .i64 ((gx arcs q).1), .int .i64 ((gx arcs q).2)] 35])⟩
        · skip
          refine ql (.bool false) (by kernel_rfl) (R_nbool (p := ((gx arcs q).1) < (0 : Int)) (by kernel_rfl) (hc11)) ?_
          refine ql (.bool false) (by kernel_rfl) (by kernel_rfl) ?_
          refine ql (.pointer (some ⟨g8, 0, none⟩)) (by kernel_rfl) (by kernel_rfl) ?_
          refine ql (.int .i64 ((gx arcs q).1)) (by kernel_rfl) (R_load (p := ⟨g8, 0, none⟩) (by kernel_rfl) (by kernel_rfl) (by kernel_rfl) (HS.cell (i := 0) (j := 0) rfl rfl)) ?_
          refine ql (.int .i64 (N : Int)) (by kernel_rfl) (by kernel_rfl) ?_
          by_cases hc12 : ((gx arcs q).1) ≥ (N : Int)
          · skip
            refine ql (.bool true) (by kernel_rfl) (R_bool (p := ((gx arcs q).1) ≥ (N : Int)) (by kernel_rfl) (hc12)) ?_
            refine ql (.bool true) (by kernel_rfl) (by kernel_rfl) ?_
            refine ql (.bool true) (by kernel_rfl) (by kernel_rfl) ?_
            refine qln (by kernel_rfl) ?_
            refine qln (by kernel_rfl) ?_
            refine qln (by kernel_rfl) ?_
            refine ql (.bool true) (by kernel_rfl) (by kernel_rfl) ?_
            refine ql (.bool true) (by kernel_rfl) (by kernel_rfl) ?_
            refine qln (by kernel_rfl) ?_
            refine qln (by kernel_rfl) ?_
            refine qln (by kernel_rfl) ?_
            refine qln (by kernel_rfl) ?_
            refine ql (.bool true) (by kernel_rfl) (by kernel_rfl) ?_
            refine wpList_nil ?_
            refine x_then ?_
            refine wp_cond_true (by kernel_rfl) ?_
            refine wp_seq ?_
            refine wp_region_lit ?_
            refine ql (.pointer none) (by kernel_rfl) (by kernel_rfl) ?_
            refine ql (.int .i64 7) (by kernel_rfl) (by kernel_rfl) ?_
            refine wpList_nil ?_
            refine x_then ?_
            refine wp_ret ?_
            refine x_inbR ?_
            refine x_thenR ?_
            refine x_thenR ?_
            refine x_inbR ?_
            refine x_thenR ?_
            refine ret_ (.tuple #[.pointer none, .int .i64 7]) (by kernel_rfl) ?_
            exact .inr ⟨by rw [chk7 (i := q) (by omega) (by omega) q0 (by omega) (by omega)]; decide, by rw [chk7 (i := q) (by omega) (by omega) q0 (by omega) (by omega)], HS.tail (F := [blk g8 [.int .i64 ((gx arcs q).1), .int .i64 ((gx arcs q).2)] 35])⟩
          · skip
            refine ql (.bool false) (by kernel_rfl) (R_nbool (p := ((gx arcs q).1) ≥ (N : Int)) (by kernel_rfl) (hc12)) ?_
            refine ql (.bool false) (by kernel_rfl) (by kernel_rfl) ?_
            refine ql (.bool false) (by kernel_rfl) (by kernel_rfl) ?_
            refine ql (.pointer (some ⟨g8, 1, none⟩)) (by kernel_rfl) (by kernel_rfl) ?_
            refine ql (.int .i64 ((gx arcs q).2)) (by kernel_rfl) (R_load (p := ⟨g8, 1, none⟩) (by kernel_rfl) (by kernel_rfl) (by kernel_rfl) (HS.cell (i := 0) (j := 1) rfl rfl)) ?_
            by_cases hc13 : ((gx arcs q).2) < (0 : Int)
            · skip
              refine ql (.bool true) (by kernel_rfl) (R_bool (p := ((gx arcs q).2) < (0 : Int)) (by kernel_rfl) (hc13)) ?_
              refine ql (.bool true) (by kernel_rfl) (by kernel_rfl) ?_
              refine ql (.bool true) (by kernel_rfl) (by kernel_rfl) ?_
              refine qln (by kernel_rfl) ?_
              refine qln (by kernel_rfl) ?_
              refine qln (by kernel_rfl) ?_
              refine qln (by kernel_rfl) ?_
              refine ql (.bool true) (by kernel_rfl) (by kernel_rfl) ?_
              refine wpList_nil ?_
              refine x_then ?_
              refine wp_cond_true (by kernel_rfl) ?_
              refine wp_seq ?_
              refine wp_region_lit ?_
              refine ql (.pointer none) (by kernel_rfl) (by kernel_rfl) ?_
              refine ql (.int .i64 7) (by kernel_rfl) (by kernel_rfl) ?_
              refine wpList_nil ?_
              refine x_then ?_
              refine wp_ret ?_
              refine x_inbR ?_
              refine x_thenR ?_
              refine x_thenR ?_
              refine x_inbR ?_
              refine x_thenR ?_
              refine ret_ (.tuple #[.pointer none, .int .i64 7]) (by kernel_rfl) ?_
              exact .inr ⟨by rw [chk7 (i := q) (by omega) (by omega) q0 (by omega) (by omega)]; decide, by rw [chk7 (i := q) (by omega) (by omega) q0 (by omega) (by omega)], HS.tail (F := [blk g8 [.int .i64 ((gx arcs q).1), .int .i64 ((gx arcs q).2)] 35])⟩
            · skip
              refine ql (.bool false) (by kernel_rfl) (R_nbool (p := ((gx arcs q).2) < (0 : Int)) (by kernel_rfl) (hc13)) ?_
              refine ql (.bool false) (by kernel_rfl) (by kernel_rfl) ?_
              refine ql (.bool false) (by kernel_rfl) (by kernel_rfl) ?_
              refine ql (.pointer (some ⟨g8, 1, none⟩)) (by kernel_rfl) (by kernel_rfl) ?_
              refine ql (.int .i64 ((gx arcs q).2)) (by kernel_rfl) (R_load (p := ⟨g8, 1, none⟩) (by kernel_rfl) (by kernel_rfl) (by kernel_rfl) (HS.cell (i := 0) (j := 1) rfl rfl)) ?_
              refine ql (.int .i64 (N : Int)) (by kernel_rfl) (by kernel_rfl) ?_
              by_cases hc14 : ((gx arcs q).2) ≥ (N : Int)
              · skip
                refine ql (.bool true) (by kernel_rfl) (R_bool (p := ((gx arcs q).2) ≥ (N : Int)) (by kernel_rfl) (hc14)) ?_
                refine ql (.bool true) (by kernel_rfl) (by kernel_rfl) ?_
                refine wpList_nil ?_
                refine x_then ?_
                refine wp_cond_true (by kernel_rfl) ?_
                refine wp_seq ?_
                refine wp_region_lit ?_
                refine ql (.pointer none) (by kernel_rfl) (by kernel_rfl) ?_
                refine ql (.int .i64 7) (by kernel_rfl) (by kernel_rfl) ?_
                refine wpList_nil ?_
                refine x_then ?_
                refine wp_ret ?_
                refine x_inbR ?_
                refine x_thenR ?_
                refine x_thenR ?_
                refine x_inbR ?_
                refine x_thenR ?_
                refine ret_ (.tuple #[.pointer none, .int .i64 7]) (by kernel_rfl) ?_
                exact .inr ⟨by rw [chk7 (i := q) (by omega) (by omega) q0 (by omega) (by omega)]; decide, by rw [chk7 (i := q) (by omega) (by omega) q0 (by omega) (by omega)], HS.tail (F := [blk g8 [.int .i64 ((gx arcs q).1), .int .i64 ((gx arcs q).2)] 35])⟩
              · skip
                refine ql (.bool false) (by kernel_rfl) (R_nbool (p := ((gx arcs q).2) ≥ (N : Int)) (by kernel_rfl) (hc14)) ?_
                refine ql (.bool false) (by kernel_rfl) (by kernel_rfl) ?_
                refine wpList_nil ?_
                refine x_then ?_
                refine wp_cond_false (by kernel_rfl) ?_
                refine wp_skip ?_
                refine x_inb ?_
                refine x_then ?_
                refine wp_region_lit ?_
                refine ql (.int .i64 (q + 1)) (by kernel_rfl) (R_int (by kernel_rfl) (w64 (by omega))) ?_
                refine ql (.int .i64 (q + 1)) (by kernel_rfl) (by kernel_rfl) ?_
                refine wpList_nil ?_
                replace HS := HS.drop1
                have hfs := fine_step hf q0 (by omega) ⟨by omega, by omega, by omega, by omega⟩
                refine x_then ?_
                exact ⟨arcs.length - (q + 1).toNat, by omega, (fun k_ : Nat => List.getD ((.int .i64 (N : Int)) :: (.slice (some ad7) arcs.length c) :: undef :: undef :: ((J3 4)) :: ((J3 5)) :: undef :: (.pointer (some ⟨g8, 0, none⟩)) :: undef :: (.bool false) :: (.int .i64 (N : Int)) :: (.bool false) :: (.bool false) :: (.int .i64 (N : Int)) :: (.bool false) :: (.bool false) :: (.slice (some ad7) arcs.length c) :: (.int .i64 (arcs.length : Int)) :: (.bool false) :: (.bool false) :: (.slice (some ad7) arcs.length c) :: (.int .i64 (arcs.length : Int)) :: (.int .i64 (q + 1)) :: (.bool true) :: (.pointer (some (ad7.add (q.toNat * 2)))) :: (.agg #[.int .i64 ((gx arcs q).1), .int .i64 ((gx arcs q).2)]) :: (.pointer (some ⟨g8, 0, none⟩)) :: (.int .i64 ((gx arcs q).1)) :: (.bool false) :: (.bool false) :: (.pointer (some ⟨g8, 0, none⟩)) :: (.int .i64 ((gx arcs q).1)) :: (.int .i64 (N : Int)) :: (.bool false) :: (.bool false) :: (.bool false) :: (.pointer (some ⟨g8, 1, none⟩)) :: (.int .i64 ((gx arcs q).2)) :: (.bool false) :: (.bool false) :: (.bool false) :: (.pointer (some ⟨g8, 1, none⟩)) :: (.int .i64 ((gx arcs q).2)) :: (.int .i64 (N : Int)) :: (.bool false) :: (.bool false) :: (.int .i64 (q + 1)) :: undef :: undef :: undef :: undef :: undef :: undef :: undef :: undef :: undef :: undef :: undef :: undef :: undef :: undef :: undef :: undef :: undef :: undef :: undef :: undef :: undef :: undef :: undef :: undef :: undef :: undef :: undef :: undef :: undef :: undef :: undef :: undef :: undef :: undef :: undef :: undef :: []) k_ undef), q + 1, congrArg Fr (by kernel_rfl), rfl, by omega, by omega, hfs, HS⟩
      · skip
        refine ql (.bool false) (by kernel_rfl) (R_nbool (p := q < (arcs.length : Int)) (by kernel_rfl) (hc6)) ?_
        refine wpList_nil ?_
        refine x_then ?_
        refine wp_seq ?_
        refine wp_cond_false (by kernel_rfl) ?_
        refine wp_exit ?_
        refine x_thenE ?_
        refine x_thenE ?_
        refine x_hit ?_
        refine x_then ?_
        refine wp_seq ?_
        have hF : Fine N arcs := by rwa [List.take_of_length_le (by omega)] at hf
        refine wp_region_lit ?_
        refine ql (.int .i64 (N : Int)) (by kernel_rfl) (by kernel_rfl) ?_
        refine ql (.slice A arcs.length c) (by kernel_rfl) (by kernel_rfl) ?_
        refine ka0 HS (Src.of_rd' (n := arcs.length) (c := c) (z := 2) (hr.old0 HS) (by rw [cf_len (z := 2) (fun _ => rfl)]) (by decide) (cf_one (fun _ => rfl))) [.int .i64 0, .int .i64 0] 16 (by kernel_rfl) (by kernel_rfl) (by kernel_rfl) Try.underlying65 (by kernel_rfl) (by kernel_rfl) (by kernel_rfl) (by kernel_rfl) (by decide) (by omega) (by omega) ?_
        intro A15 c16 W17 H_
        replace HS : St W (owns []) W17 [row A15 arcs.length c16 (cf arcC arcs) 35 2] := H_
        clear H_
        refine ql (.agg #[.int .i64 (N : Int), .slice A15 arcs.length c16, .slice none 0 0, .slice none 0 0, .slice none 0 0, .slice none 0 0]) (by kernel_rfl) (by kernel_rfl) ?_
        refine kb HS [.int .i64 (N : Int), .slice A15 arcs.length c16, .slice none 0 0, .slice none 0 0, .slice none 0 0, .slice none 0 0] 69 (fun g => .pointer (some ⟨g, 0, none⟩)) (by kernel_rfl) (by kernel_rfl) ?_
        intro g18 W19 H_
        replace HS : St W (owns []) W19 [blk g18 [.int .i64 (N : Int), .slice A15 arcs.length c16, .slice none 0 0, .slice none 0 0, .slice none 0 0, .slice none 0 0] 69, row A15 arcs.length c16 (cf arcC arcs) 35 2] := H_
        clear H_
        refine ql (.pointer (some ⟨g18, 0, none⟩)) (by kernel_rfl) (by kernel_rfl) ?_
        refine wpList_nil ?_
        refine x_then ?_
        refine wp_seq ?_
        refine wp_region_lit ?_
        refine ql (.pointer (some ⟨g18, 0, none⟩)) (by kernel_rfl) (by kernel_rfl) ?_
        refine ql (.pointer (some ⟨g18, 0, none⟩)) (by kernel_rfl) (by kernel_rfl) ?_
        refine ql (.int .i64 (N : Int)) (by kernel_rfl) (by kernel_rfl) ?_
        refine ql (.pointer (some ⟨g18, 0, none⟩)) (by kernel_rfl) (by kernel_rfl) ?_
        refine ql (.pointer (some ⟨g18, 0, none⟩)) (by kernel_rfl) (by kernel_rfl) ?_
        refine ql (.pointer (some ⟨g18, 1, none⟩)) (by kernel_rfl) (by kernel_rfl) ?_
        refine ql (.slice A15 arcs.length c16) (by kernel_rfl) (R_load (p := ⟨g18, 1, none⟩) (by kernel_rfl) (by kernel_rfl) (by kernel_rfl) (HS.cell (i := 0) (j := 1) rfl rfl)) ?_
        refine qc (f := 61) (args := #[.int .i64 (N : Int), .slice A15 arcs.length c16, .bool false]) (by kernel_rfl) (R_call #[.int .i64 (N : Int), .slice A15 arcs.length c16, .bool false] Try.func61 (by kernel_rfl) (by kernel_rfl) (by kernel_rfl)) ?_
        refine (lay_calls N _ _ arcs false _ (Rd.row HS (i := 1) rfl) hF (by omega) (by omega)).mono ?_
        rintro e W20 ⟨Ax1, cx1, Ay1, cy1, os, rfl, H_, hla1⟩
        refine ⟨_, rfl, ?_⟩
        replace HS : St W (owns []) W20 [row Ax1 arcs.length cx1 (ci .i32 os) 21 1, row Ay1 (N + 1) cy1 (ci .i32 (bl N (keys false arcs))) 21 1, blk g18 [.int .i64 (N : Int), .slice A15 arcs.length c16, .slice none 0 0, .slice none 0 0, .slice none 0 0, .slice none 0 0] 69, row A15 arcs.length c16 (cf arcC arcs) 35 2] := HS.join (F := []) (G := [row Ax1 arcs.length cx1 (ci .i32 os) 21 1, row Ay1 (N + 1) cy1 (ci .i32 (bl N (keys false arcs))) 21 1]) H_
        clear H_
        refine ql (.tuple #[.slice Ax1 arcs.length cx1, .slice Ay1 (N + 1) cy1]) (by kernel_rfl) (by kernel_rfl) ?_
        refine ql (.slice Ax1 arcs.length cx1) (by kernel_rfl) (by kernel_rfl) ?_
        refine ql (.slice Ay1 (N + 1) cy1) (by kernel_rfl) (by kernel_rfl) ?_
        refine ql (.pointer (some ⟨g18, 0, none⟩)) (by kernel_rfl) (by kernel_rfl) ?_
        refine ql (.pointer (some ⟨g18, 2, none⟩)) (by kernel_rfl) (by kernel_rfl) ?_
        refine ks (v := .slice Ax1 arcs.length cx1) HS 2 rfl (2) [.slice Ax1 arcs.length cx1] (by kernel_rfl) (by kernel_rfl) (by kernel_rfl) (by kernel_rfl) (by kernel_rfl) (one_ (by kernel_rfl)) (Nat.le_of_ble_eq_true rfl) rfl ?_
        intro W21 H_
        replace HS : St W (owns []) W21 [row Ax1 arcs.length cx1 (ci .i32 os) 21 1, row Ay1 (N + 1) cy1 (ci .i32 (bl N (keys false arcs))) 21 1, blk g18 [.int .i64 (N : Int), .slice A15 arcs.length c16, .slice Ax1 arcs.length cx1, .slice none 0 0, .slice none 0 0, .slice none 0 0] 69, row A15 arcs.length c16 (cf arcC arcs) 35 2] := H_
        clear H_
        refine ql (.pointer (some ⟨g18, 0, none⟩)) (by kernel_rfl) (by kernel_rfl) ?_
        refine ql (.pointer (some ⟨g18, 4, none⟩)) (by kernel_rfl) (by kernel_rfl) ?_
        refine ks (v := .slice Ay1 (N + 1) cy1) HS 2 rfl (4) [.slice Ay1 (N + 1) cy1] (by kernel_rfl) (by kernel_rfl) (by kernel_rfl) (by kernel_rfl) (by kernel_rfl) (one_ (by kernel_rfl)) (Nat.le_of_ble_eq_true rfl) rfl ?_
        intro W22 H_
        replace HS : St W (owns []) W22 [row Ax1 arcs.length cx1 (ci .i32 os) 21 1, row Ay1 (N + 1) cy1 (ci .i32 (bl N (keys false arcs))) 21 1, blk g18 [.int .i64 (N : Int), .slice A15 arcs.length c16, .slice Ax1 arcs.length cx1, .slice none 0 0, .slice Ay1 (N + 1) cy1, .slice none 0 0] 69, row A15 arcs.length c16 (cf arcC arcs) 35 2] := H_
        clear H_
        refine wpList_nil ?_
        refine x_then ?_
        refine wp_seq ?_
        refine wp_region_lit ?_
        refine ql (.pointer (some ⟨g18, 0, none⟩)) (by kernel_rfl) (by kernel_rfl) ?_
        refine ql (.pointer (some ⟨g18, 0, none⟩)) (by kernel_rfl) (by kernel_rfl) ?_
        refine ql (.int .i64 (N : Int)) (by kernel_rfl) (by kernel_rfl) ?_
        refine ql (.pointer (some ⟨g18, 0, none⟩)) (by kernel_rfl) (by kernel_rfl) ?_
        refine ql (.pointer (some ⟨g18, 0, none⟩)) (by kernel_rfl) (by kernel_rfl) ?_
        refine ql (.pointer (some ⟨g18, 1, none⟩)) (by kernel_rfl) (by kernel_rfl) ?_
        refine ql (.slice A15 arcs.length c16) (by kernel_rfl) (R_load (p := ⟨g18, 1, none⟩) (by kernel_rfl) (by kernel_rfl) (by kernel_rfl) (HS.cell (i := 2) (j := 1) rfl rfl)) ?_
        refine qc (f := 61) (args := #[.int .i64 (N : Int), .slice A15 arcs.length c16, .bool true]) (by kernel_rfl) (R_call #[.int .i64 (N : Int), .slice A15 arcs.length c16, .bool true] Try.func61 (by kernel_rfl) (by kernel_rfl) (by kernel_rfl)) ?_
        refine (lay_calls N _ _ arcs true _ (Rd.row HS (i := 3) rfl) hF (by omega) (by omega)).mono ?_
        rintro e W23 ⟨Ax2, cx2, Ay2, cy2, js, rfl, H_, hla2⟩
        refine ⟨_, rfl, ?_⟩
        replace HS : St W (owns []) W23 [row Ax2 arcs.length cx2 (ci .i32 js) 21 1, row Ay2 (N + 1) cy2 (ci .i32 (bl N (keys true arcs))) 21 1, row Ax1 arcs.length cx1 (ci .i32 os) 21 1, row Ay1 (N + 1) cy1 (ci .i32 (bl N (keys false arcs))) 21 1, blk g18 [.int .i64 (N : Int), .slice A15 arcs.length c16, .slice Ax1 arcs.length cx1, .slice none 0 0, .slice Ay1 (N + 1) cy1, .slice none 0 0] 69, row A15 arcs.length c16 (cf arcC arcs) 35 2] := HS.join (F := []) (G := [row Ax2 arcs.length cx2 (ci .i32 js) 21 1, row Ay2 (N + 1) cy2 (ci .i32 (bl N (keys true arcs))) 21 1]) H_
        clear H_
        refine ql (.tuple #[.slice Ax2 arcs.length cx2, .slice Ay2 (N + 1) cy2]) (by kernel_rfl) (by kernel_rfl) ?_
        refine ql (.slice Ax2 arcs.length cx2) (by kernel_rfl) (by kernel_rfl) ?_
        refine ql (.slice Ay2 (N + 1) cy2) (by kernel_rfl) (by kernel_rfl) ?_
        refine ql (.pointer (some ⟨g18, 0, none⟩)) (by kernel_rfl) (by kernel_rfl) ?_
        refine ql (.pointer (some ⟨g18, 3, none⟩)) (by kernel_rfl) (by kernel_rfl) ?_
        refine ks (v := .slice Ax2 arcs.length cx2) HS 4 rfl (3) [.slice Ax2 arcs.length cx2] (by kernel_rfl) (by kernel_rfl) (by kernel_rfl) (by kernel_rfl) (by kernel_rfl) (one_ (by kernel_rfl)) (Nat.le_of_ble_eq_true rfl) rfl ?_
        intro W24 H_
        replace HS : St W (owns []) W24 [row Ax2 arcs.length cx2 (ci .i32 js) 21 1, row Ay2 (N + 1) cy2 (ci .i32 (bl N (keys true arcs))) 21 1, row Ax1 arcs.length cx1 (ci .i32 os) 21 1, row Ay1 (N + 1) cy1 (ci .i32 (bl N (keys false arcs))) 21 1, blk g18 [.int .i64 (N : Int), .slice A15 arcs.length c16, .slice Ax1 arcs.length cx1, .slice Ax2 arcs.length cx2, .slice Ay1 (N + 1) cy1, .slice none 0 0] 69, row A15 arcs.length c16 (cf arcC arcs) 35 2] := H_
        clear H_
        refine ql (.pointer (some ⟨g18, 0, none⟩)) (by kernel_rfl) (by kernel_rfl) ?_
        refine ql (.pointer (some ⟨g18, 5, none⟩)) (by kernel_rfl) (by kernel_rfl) ?_
        refine ks (v := .slice Ay2 (N + 1) cy2) HS 4 rfl (5) [.slice Ay2 (N + 1) cy2] (by kernel_rfl) (by kernel_rfl) (by kernel_rfl) (by kernel_rfl) (by kernel_rfl) (one_ (by kernel_rfl)) (Nat.le_of_ble_eq_true rfl) rfl ?_
        intro W25 H_
        replace HS : St W (owns []) W25 [row Ax2 arcs.length cx2 (ci .i32 js) 21 1, row Ay2 (N + 1) cy2 (ci .i32 (bl N (keys true arcs))) 21 1, row Ax1 arcs.length cx1 (ci .i32 os) 21 1, row Ay1 (N + 1) cy1 (ci .i32 (bl N (keys false arcs))) 21 1, blk g18 [.int .i64 (N : Int), .slice A15 arcs.length c16, .slice Ax1 arcs.length cx1, .slice Ax2 arcs.length cx2, .slice Ay1 (N + 1) cy1, .slice Ay2 (N + 1) cy2] 69, row A15 arcs.length c16 (cf arcC arcs) 35 2] := H_
        clear H_
        refine wpList_nil ?_
        refine x_then ?_
        refine wp_seq ?_
        refine wp_region_lit ?_
        refine ql (.pointer (some ⟨g18, 0, none⟩)) (by kernel_rfl) (by kernel_rfl) ?_
        refine ql (.pointer (some ⟨g18, 0, none⟩)) (by kernel_rfl) (by kernel_rfl) ?_
        refine ql (.int .i64 0) (by kernel_rfl) (by kernel_rfl) ?_
        refine wpList_nil ?_
        refine x_then ?_
        refine wp_ret ?_
        refine ret_ (.tuple #[.pointer (some ⟨g18, 0, none⟩), .int .i64 0]) (by kernel_rfl) ?_
        refine .inl ⟨chk0 (by omega) hF, g18, N, rfl, rfl, HS.tail (F := [row Ax2 arcs.length cx2 (ci .i32 js) 21 1, row Ay2 (N + 1) cy2 (ci .i32 (bl N (keys true arcs))) 21 1, row Ax1 arcs.length cx1 (ci .i32 os) 21 1, row Ay1 (N + 1) cy1 (ci .i32 (bl N (keys false arcs))) 21 1, blk g18 [.int .i64 (N : Int), .slice A15 arcs.length c16, .slice Ax1 arcs.length cx1, .slice Ax2 arcs.length cx2, .slice Ay1 (N + 1) cy1, .slice Ay2 (N + 1) cy2] 69, row A15 arcs.length c16 (cf arcC arcs) 35 2]), ?_⟩
        refine ⟨_, _, _, _, _, _, _, _, _, _, os, js, HS.blkE (i := 4) rfl, Rd.row HS (i := 5) rfl, Rd.row HS (i := 2) rfl, Rd.row HS (i := 0) rfl, Rd.row HS (i := 3) rfl, Rd.row HS (i := 1) rfl, hla1, hla2, hF, by omega, by omega, (HS.rcap (i := 2) rfl).1, (HS.rcap (i := 0) rfl).1, (HS.rcap (i := 3) rfl).1, (HS.rcap (i := 1) rfl).1⟩

theorem new_calls (n : Int) (A : Option Addr) (c : Nat) (arcs : List (Int × Int)) (W : World) (hr : Rd W A (cf arcC arcs)) (hl : arcs.length ≤ 1099511627776) : Calls Try.prog 49 #[.int .i64 n, .slice A arcs.length c] W fun e W' => NewP W n arcs e W' := by
  by_cases hn : n < 0
  · exact new_neg n A c arcs W hr hl hn
  · obtain ⟨N, rfl⟩ : ∃ N : Nat, n = (N : Int) := ⟨n.toNat, by omega⟩
    exact new_nat N A c arcs W hr hl

end Go.Proofs.Ythfpdpjccnnlhaa.GBfsLayers
