/- Written for this claim by gp.py, a program of this session's, over the kit's print. Lean checks it. -/
import Derived.Test.YthfpdpjccnnlhaaGGraphReachesx0
import Derived.Test.YthfpdpjccnnlhaaGGraphReacheshx
import Derived.Test.YthfpdpjccnnlhaaGGraphReacheshhp1
import Derived.Test.YthfpdpjccnnlhaaGGraphReacheshhp2
import Derived.Test.YthfpdpjccnnlhaaGGraphReacheshgp
import Derived.Test.YthfpdpjccnnlhaaGGraphReacheshg1
import Derived.Test.YthfpdpjccnnlhaaGGraphReacheshg2
import Derived.WalkKit
import Derived.StillTailTactics
import Derived.Deep.LoopGhost
import Derived.KernelRfl
import Derived.Deep.OwnRows
import Derived.Laws.OwnMore
import Derived.Laws.MakeOwn
import Derived.Maps.AppendAt
import Derived.OrdersHeld
namespace Go.Proofs.Ythfpdpjccnnlhaa.GGraphReaches
open Go.RowKit Go.Proofs.YthfpdpjccnnlhaaW.PrintWords Go.Proofs.YthfpdpjccnnlhaaW.PrintLast Go.Proofs.YthfpdpjccnnlhaaW.PrintMore
attribute [local go_sem] max2_int min2_int max_two min_two max_three min_three max_four min_four   -- for this text's walks alone
set_option linter.unusedVariables false
set_option linter.unusedSimpArgs false

--import Derived.WalkKit
--import Derived.StillTailTactics
--import Derived.Deep.LoopGhost
--import Derived.KernelRfl
--import Derived.Deep.OwnRows
--import Derived.Laws.OwnMore
--import Derived.Laws.MakeOwn
--import Derived.Maps.AppendAt
--import Derived.OrdersHeld
attribute [local irreducible] wpStill wpList Code.wp TA

set_option maxRecDepth 100000 in
set_option maxHeartbeats 1000000 in
theorem reach_nil (W : World) (v : Int) : Calls Try.prog 14 #[.pointer none, .int .i64 v] W fun e W' => e = .returned (.slice none 0 0) ∧ St W (owns []) W' [] := by
  have HS : St W (owns []) W [] := St.start W _
  refine calls_enter ((.pointer none) :: (.int .i64 v) :: undef :: undef :: undef :: undef :: undef :: undef :: undef :: undef :: undef :: undef :: undef :: undef :: undef :: undef :: undef :: undef :: undef :: undef :: undef :: undef :: undef :: undef :: undef :: undef :: undef :: undef :: undef :: undef :: undef :: undef :: undef :: undef :: undef :: undef :: undef :: undef :: undef :: undef :: undef :: undef :: undef :: undef :: undef :: undef :: undef :: undef :: undef :: undef :: undef :: undef :: undef :: undef :: undef :: undef :: undef :: undef :: undef :: undef :: undef :: undef :: undef :: undef :: undef :: undef :: undef :: undef :: undef :: undef :: undef :: undef :: undef :: undef :: undef :: undef :: undef :: undef :: undef :: undef :: undef :: []) Try.func14 rfl (by kernel_rfl) ?_
  refine wp_seq ?_
  refine wp_region_lit ?_
  refine ql (.slice none 0 0) (by kernel_rfl) (by kernel_rfl) ?_
  refine wpList_nil ?_
  refine x_then ?_
  refine wp_seq ?_
  refine wp_seq ?_
  refine wp_region_lit ?_
  refine ql (.int .i64 v) (by kernel_rfl) (by kernel_rfl) ?_
  by_cases hc1 : v < (0 : Int)
  · skip
    refine ql (.bool true) (by kernel_rfl) (R_bool (p := v < (0 : Int)) (by kernel_rfl) (hc1)) ?_
    refine ql (.bool true) (by kernel_rfl) (by kernel_rfl) ?_
    refine qln (by kernel_rfl) ?_
    refine qln (by kernel_rfl) ?_
    refine qln (by kernel_rfl) ?_
    refine qln (by kernel_rfl) ?_
    refine ql (.bool true) (by kernel_rfl) (by kernel_rfl) ?_
    refine wpList_nil ?_
    refine x_then ?_
    refine wp_cond_true (by kernel_rfl) ?_
    refine wp_seq ?_
    refine wp_region_lit ?_
    refine ql (.slice none 0 0) (by kernel_rfl) (by kernel_rfl) ?_
    refine wpList_nil ?_
    refine x_then ?_
    refine wp_ret ?_
    refine x_thenR ?_
    refine ret_ (.slice none 0 0) (by kernel_rfl) ?_
    exact ⟨rfl, HS⟩
  · skip
    refine ql (.bool false) (by kernel_rfl) (R_nbool (p := v < (0 : Int)) (by kernel_rfl) (hc1)) ?_
    refine ql (.bool false) (by kernel_rfl) (by kernel_rfl) ?_
    refine ql (.int .i64 v) (by kernel_rfl) (by kernel_rfl) ?_
    refine ql (.pointer none) (by kernel_rfl) (by kernel_rfl) ?_
    refine qc (f := 17) (args := #[.pointer none]) (by kernel_rfl) (R_call #[.pointer none] Try.func17 (by kernel_rfl) (by kernel_rfl) (by kernel_rfl)) ?_
    refine (nodesnil _).mono ?_
    rintro e W2 ⟨rfl, H_⟩
    refine ⟨_, rfl, ?_⟩
    replace HS : St W (owns []) W2 [] := HS.join (F := []) (G := []) H_
    clear H_
    refine ql (.bool true) (by kernel_rfl) (R_bool (p := v ≥ (0 : Int)) (by kernel_rfl) (by omega)) ?_
    refine ql (.bool true) (by kernel_rfl) (by kernel_rfl) ?_
    refine wpList_nil ?_
    refine x_then ?_
    refine wp_cond_true (by kernel_rfl) ?_
    refine wp_seq ?_
    refine wp_region_lit ?_
    refine ql (.slice none 0 0) (by kernel_rfl) (by kernel_rfl) ?_
    refine wpList_nil ?_
    refine x_then ?_
    refine wp_ret ?_
    refine x_thenR ?_
    refine ret_ (.slice none 0 0) (by kernel_rfl) ?_
    exact ⟨rfl, HS⟩

set_option maxRecDepth 100000 in
set_option maxHeartbeats 1000000 in
theorem reach_no (g N : Nat) (arcs : List (Int × Int)) (W : World) (hG : GAt W g N arcs) (v : Int) (hv : ¬ (0 ≤ v ∧ v < N)) : Calls Try.prog 14 #[.pointer (some ⟨g, 0, none⟩), .int .i64 v] W fun e W' => e = .returned (.slice none 0 0) ∧ St W (owns []) W' [] := by
  have HS : St W (owns []) W [] := St.start W _
  have hG_ := hG
  obtain ⟨A1, c1, A2, c2, A3, c3, A4, c4, A5, c5, os, js, hB, r1, r2, r3, r4, r5, l1, l2, hF, hN, hm, k2, k3, k4, k5⟩ := hG_
  have b1 := bl_len N (keys false arcs)
  have b2 := bl_len N (keys true arcs)
  refine calls_enter ((.pointer (some ⟨g, 0, none⟩)) :: (.int .i64 v) :: undef :: undef :: undef :: undef :: undef :: undef :: undef :: undef :: undef :: undef :: undef :: undef :: undef :: undef :: undef :: undef :: undef :: undef :: undef :: undef :: undef :: undef :: undef :: undef :: undef :: undef :: undef :: undef :: undef :: undef :: undef :: undef :: undef :: undef :: undef :: undef :: undef :: undef :: undef :: undef :: undef :: undef :: undef :: undef :: undef :: undef :: undef :: undef :: undef :: undef :: undef :: undef :: undef :: undef :: undef :: undef :: undef :: undef :: undef :: undef :: undef :: undef :: undef :: undef :: undef :: undef :: undef :: undef :: undef :: undef :: undef :: undef :: undef :: undef :: undef :: undef :: undef :: undef :: undef :: []) Try.func14 rfl (by kernel_rfl) ?_
  refine wp_seq ?_
  refine wp_region_lit ?_
  refine ql (.slice none 0 0) (by kernel_rfl) (by kernel_rfl) ?_
  refine wpList_nil ?_
  refine x_then ?_
  refine wp_seq ?_
  refine wp_seq ?_
  refine wp_region_lit ?_
  refine ql (.int .i64 v) (by kernel_rfl) (by kernel_rfl) ?_
  by_cases hc1 : v < (0 : Int)
  · skip
    refine ql (.bool true) (by kernel_rfl) (R_bool (p := v < (0 : Int)) (by kernel_rfl) (hc1)) ?_
    refine ql (.bool true) (by kernel_rfl) (by kernel_rfl) ?_
    refine qln (by kernel_rfl) ?_
    refine qln (by kernel_rfl) ?_
    refine qln (by kernel_rfl) ?_
    refine qln (by kernel_rfl) ?_
    refine ql (.bool true) (by kernel_rfl) (by kernel_rfl) ?_
    refine wpList_nil ?_
    refine x_then ?_
    refine wp_cond_true (by kernel_rfl) ?_
    refine wp_seq ?_
    refine wp_region_lit ?_
    refine ql (.slice none 0 0) (by kernel_rfl) (by kernel_rfl) ?_
    refine wpList_nil ?_
    refine x_then ?_
    refine wp_ret ?_
    refine x_thenR ?_
    refine ret_ (.slice none 0 0) (by kernel_rfl) ?_
    exact ⟨rfl, HS⟩
  · skip
    refine ql (.bool false) (by kernel_rfl) (R_nbool (p := v < (0 : Int)) (by kernel_rfl) (hc1)) ?_
    refine ql (.bool false) (by kernel_rfl) (by kernel_rfl) ?_
    refine ql (.int .i64 v) (by kernel_rfl) (by kernel_rfl) ?_
    refine ql (.pointer (some ⟨g, 0, none⟩)) (by kernel_rfl) (by kernel_rfl) ?_
    refine qc (f := 17) (args := #[.pointer (some ⟨g, 0, none⟩)]) (by kernel_rfl) (R_call #[.pointer (some ⟨g, 0, none⟩)] Try.func17 (by kernel_rfl) (by kernel_rfl) (by kernel_rfl)) ?_
    refine (nodessome g N arcs _ (hG.below (HS.kept.below owns_nil))).mono ?_
    rintro e W2 ⟨rfl, H_⟩
    refine ⟨_, rfl, ?_⟩
    replace HS : St W (owns []) W2 [] := HS.join (F := []) (G := []) H_
    clear H_
    refine ql (.bool true) (by kernel_rfl) (R_bool (p := v ≥ (N : Int)) (by kernel_rfl) (by omega)) ?_
    refine ql (.bool true) (by kernel_rfl) (by kernel_rfl) ?_
    refine wpList_nil ?_
    refine x_then ?_
    refine wp_cond_true (by kernel_rfl) ?_
    refine wp_seq ?_
    refine wp_region_lit ?_
    refine ql (.slice none 0 0) (by kernel_rfl) (by kernel_rfl) ?_
    refine wpList_nil ?_
    refine x_then ?_
    refine wp_ret ?_
    refine x_thenR ?_
    refine ret_ (.slice none 0 0) (by kernel_rfl) ?_
    exact ⟨rfl, HS⟩

set_option maxRecDepth 100000 in
set_option maxHeartbeats 1000000 in
theorem reach_yes (g N : Nat) (arcs : List (Int × Int)) (W : World) (hG : GAt W g N arcs) (v : Int) (h0 : 0 ≤ v) (h1 : v < N) : Calls Try.prog 14 #[.pointer (some ⟨g, 0, none⟩), .int .i64 v] W fun e W' => ∃ A' c', e = .returned (.slice A' (reach N arcs v).length c') ∧ St W (owns []) W' [row A' (reach N arcs v).length c' (ci .i64 (reach N arcs v)) 3 1] := by
  have HS : St W (owns []) W [] := St.start W _
  have hG_ := hG
  obtain ⟨A1, c1, A2, c2, A3, c3, A4, c4, A5, c5, os, js, hB, r1, r2, r3, r4, r5, l1, l2, hF, hN, hm, k2, k3, k4, k5⟩ := hG_
  have b1 := bl_len N (keys false arcs)
  have b2 := bl_len N (keys true arcs)
  refine calls_enter ((.pointer (some ⟨g, 0, none⟩)) :: (.int .i64 v) :: undef :: undef :: undef :: undef :: undef :: undef :: undef :: undef :: undef :: undef :: undef :: undef :: undef :: undef :: undef :: undef :: undef :: undef :: undef :: undef :: undef :: undef :: undef :: undef :: undef :: undef :: undef :: undef :: undef :: undef :: undef :: undef :: undef :: undef :: undef :: undef :: undef :: undef :: undef :: undef :: undef :: undef :: undef :: undef :: undef :: undef :: undef :: undef :: undef :: undef :: undef :: undef :: undef :: undef :: undef :: undef :: undef :: undef :: undef :: undef :: undef :: undef :: undef :: undef :: undef :: undef :: undef :: undef :: undef :: undef :: undef :: undef :: undef :: undef :: undef :: undef :: undef :: undef :: undef :: []) Try.func14 rfl (by kernel_rfl) ?_
  refine wp_seq ?_
  refine wp_region_lit ?_
  refine ql (.slice none 0 0) (by kernel_rfl) (by kernel_rfl) ?_
  refine wpList_nil ?_
  refine x_then ?_
  refine wp_seq ?_
  refine wp_seq ?_
  refine wp_region_lit ?_
  refine ql (.int .i64 v) (by kernel_rfl) (by kernel_rfl) ?_
  refine ql (.bool false) (by kernel_rfl) (R_nbool (p := v < (0 : Int)) (by kernel_rfl) (by omega)) ?_
  refine ql (.bool false) (by kernel_rfl) (by kernel_rfl) ?_
  refine ql (.int .i64 v) (by kernel_rfl) (by kernel_rfl) ?_
  refine ql (.pointer (some ⟨g, 0, none⟩)) (by kernel_rfl) (by kernel_rfl) ?_
  refine qc (f := 17) (args := #[.pointer (some ⟨g, 0, none⟩)]) (by kernel_rfl) (R_call #[.pointer (some ⟨g, 0, none⟩)] Try.func17 (by kernel_rfl) (by kernel_rfl) (by kernel_rfl)) ?_
  refine (nodessome g N arcs _ (hG.below (HS.kept.below owns_nil))).mono ?_
  rintro e W1 ⟨rfl, H_⟩
  refine ⟨_, rfl, ?_⟩
  replace HS : St W (owns []) W1 [] := HS.join (F := []) (G := []) H_
  clear H_
  refine ql (.bool false) (by kernel_rfl) (R_nbool (p := v ≥ (N : Int)) (by kernel_rfl) (by omega)) ?_
  refine ql (.bool false) (by kernel_rfl) (by kernel_rfl) ?_
  refine wpList_nil ?_
  refine x_then ?_
  refine wp_cond_false (by kernel_rfl) ?_
  refine wp_skip ?_
  refine x_then ?_
  refine wp_seq ?_
  refine wp_region_lit ?_
  refine ql (.pointer (some ⟨g, 0, none⟩)) (by kernel_rfl) (by kernel_rfl) ?_
  refine ql (.pointer (some ⟨g, 0, none⟩)) (by kernel_rfl) (by kernel_rfl) ?_
  refine ql (.pointer (some ⟨g, 0, none⟩)) (by kernel_rfl) (by kernel_rfl) ?_
  refine ql (.int .i64 (N : Int)) (by kernel_rfl) (R_load (p := ⟨g, 0, none⟩) (by kernel_rfl) (by kernel_rfl) (by kernel_rfl) (HS.old0 (cell_at (j := 0) hB rfl))) ?_
  refine km HS (N) [.int .i64 0] 8 (by kernel_rfl) (k_eq (k := .i64) (m := (N : Int)) (by kernel_rfl) (by omega)) (k_eq (k := .i64) (m := (N : Int)) (by kernel_rfl) (by omega)) Try.underlying28 (by kernel_rfl) (by kernel_rfl) (by kernel_rfl) (by decide) (by omega) (by omega) ?_
  intro g2 W3 H_
  replace HS : St W (owns []) W3 [row (some ⟨g2, 0, none⟩) N N (ci .i64 (List.replicate (N) 0)) 3 1] := H_.cast_ (by rw [ci_rep]; rfl)
  clear H_
  have rlg2 : (List.replicate (N) (0 : Int)).length = N := List.length_replicate
  refine ql (.slice (some ⟨g2, 0, none⟩) N N) (by kernel_rfl) (by kernel_rfl) ?_
  refine wpList_nil ?_
  refine x_then ?_
  refine wp_seq ?_
  refine wp_region_lit ?_
  refine ql (.slice (some ⟨g2, 0, none⟩) N N) (by kernel_rfl) (by kernel_rfl) ?_
  refine ql (.int .i64 v) (by kernel_rfl) (by kernel_rfl) ?_
  refine ql (.pointer (some ⟨g2, v.toNat, none⟩)) (by kernel_rfl) (R_index1 (k := .i64) (g := g2) (n := N) (c := N) (i := v) (by kernel_rfl) (by kernel_rfl) Try.underlying28 (by kernel_rfl) (by omega) (by omega)) ?_
  refine kr (v := .int .i64 1) HS 0 rfl (v.toNat) [.int .i64 1] (by kernel_rfl) (by kernel_rfl) (by kernel_rfl) (by kernel_rfl) (by kernel_rfl) (one_ (by kernel_rfl)) (by rw [ci_len]; first | omega | (simp only [List.length_singleton]; omega)) rfl ?_
  intro W4 H_
  obtain ⟨xs5, xs5_⟩ : ∃ z_ : List Int, z_ = (List.replicate (N) 0).set v.toNat 1 := ⟨_, rfl⟩
  replace HS : St W (owns []) W4 [row (some ⟨g2, 0, none⟩) N N (ci .i64 xs5) 3 1] := H_.cast_ (by rw [xs5_, ← ci_set]; rfl)
  clear H_
  have xs5l : xs5.length = N := by rw [xs5_, List.length_set]; omega
  refine wpList_nil ?_
  refine x_then ?_
  refine wp_seq ?_
  refine wp_seq ?_
  refine wp_region_lit ?_
  refine ql (.int .i64 v) (by kernel_rfl) (by kernel_rfl) ?_
  refine kl HS 1 [.int .i64 v] 3 1 (by kernel_rfl) (by kernel_rfl) rfl (by decide) ?_
  intro g6 W7 H_
  replace HS : St W (owns []) W7 [row (some ⟨g6, 0, none⟩) 1 1 (ci .i64 ([v])) 3 1, row (some ⟨g2, 0, none⟩) N N (ci .i64 xs5) 3 1] := H_.cast_ (by kernel_rfl)
  clear H_
  refine ql (.slice (some ⟨g6, 0, none⟩) 1 1) (by kernel_rfl) (by kernel_rfl) ?_
  refine wpList_nil ?_
  refine x_then ?_
  refine wp_block ?_
  have hz0 := zs_le xs5
  have hri := rinv_start (arcs := arcs) h0 h1 (bs := xs5) xs5_
  refine wp_loop_ghost (fun kq a' w' => ∃ (j7 : Value) (j9 : Value) (j31 : Value) (j32 : Value) (j33 : Value) (j34 : Value) (j35 : Value) (j36 : Value) (j37 : Value) (j38 : Value) (j39 : Value) (j40 : Value) (j41 : Value) (j42 : Value) (j43 : Value) (j44 : Value) (j45 : Value) (j46 : Value) (j47 : Value) (j48 : Value) (j49 : Value) (j50 : Value) (j51 : Value) (j52 : Value) (j53 : Value) (j54 : Value) (j55 : Value) (j56 : Value) (j57 : Value) (j58 : Value) (j59 : Value) (j60 : Value) (j61 : Value) (j62 : Value) (j63 : Value) (j64 : Value) (j65 : Value) (Aw : Option Addr) (cw : Nat) (ws : List Int) (bs : List Int) , a' = Fr ((.pointer (some ⟨g, 0, none⟩)) :: (.int .i64 v) :: undef :: undef :: (.slice none 0 0) :: (.slice (some ⟨g2, 0, none⟩) N N) :: (.slice Aw ws.length cw) :: j7 :: undef :: j9 :: undef :: undef :: undef :: (.int .i64 v) :: (.bool false) :: (.bool false) :: (.int .i64 v) :: (.pointer (some ⟨g, 0, none⟩)) :: (.int .i64 (N : Int)) :: (.bool false) :: (.bool false) :: (.pointer (some ⟨g, 0, none⟩)) :: (.pointer (some ⟨g, 0, none⟩)) :: (.pointer (some ⟨g, 0, none⟩)) :: (.int .i64 (N : Int)) :: (.slice (some ⟨g2, 0, none⟩) N N) :: (.slice (some ⟨g2, 0, none⟩) N N) :: (.int .i64 v) :: (.pointer (some ⟨g2, v.toNat, none⟩)) :: (.int .i64 v) :: (.slice (some ⟨g6, 0, none⟩) 1 1) :: j31 :: j32 :: j33 :: j34 :: j35 :: j36 :: j37 :: j38 :: j39 :: j40 :: j41 :: j42 :: j43 :: j44 :: j45 :: j46 :: j47 :: j48 :: j49 :: j50 :: j51 :: j52 :: j53 :: j54 :: j55 :: j56 :: j57 :: j58 :: j59 :: j60 :: j61 :: j62 :: j63 :: j64 :: j65 :: undef :: undef :: undef :: undef :: undef :: undef :: undef :: undef :: undef :: undef :: undef :: undef :: undef :: undef :: undef :: []) ∧ kq = (ws.length + zs bs) ∧ (RInv N arcs v bs ws) ∧ (ws.length + zs bs ≤ N + 1) ∧ St W (owns []) w' [row Aw ws.length cw (ci .i64 ws) 3 1, row (some ⟨g2, 0, none⟩) N N (ci .i64 bs) 3 1]) ([v].length + zs xs5) ⟨(undef : Value), (undef : Value), (undef : Value), (undef : Value), (undef : Value), (undef : Value), (undef : Value), (undef : Value), (undef : Value), (undef : Value), (undef : Value), (undef : Value), (undef : Value), (undef : Value), (undef : Value), (undef : Value), (undef : Value), (undef : Value), (undef : Value), (undef : Value), (undef : Value), (undef : Value), (undef : Value), (undef : Value), (undef : Value), (undef : Value), (undef : Value), (undef : Value), (undef : Value), (undef : Value), (undef : Value), (undef : Value), (undef : Value), (undef : Value), (undef : Value), (undef : Value), (undef : Value), some ⟨g6, 0, none⟩, 1, [v], xs5, congrArg Fr (by kernel_rfl), rfl, hri, by simp only [List.length_cons, List.length_nil]; omega, HS⟩ ?_
  clear HS
  intro kq8 a' W9 hrel
  obtain ⟨j7, j9, j31, j32, j33, j34, j35, j36, j37, j38, j39, j40, j41, j42, j43, j44, j45, j46, j47, j48, j49, j50, j51, j52, j53, j54, j55, j56, j57, j58, j59, j60, j61, j62, j63, j64, j65, Aw, cw, ws, bs, rfl, hk, hI, hm0, HS⟩ := hrel
  have hbl := hI.1.len
  have hzl := zs_le bs
  refine wp_seq ?_
  refine wp_seq ?_
  refine wp_region_lit ?_
  refine ql (.slice Aw ws.length cw) (by kernel_rfl) (by kernel_rfl) ?_
  refine ql (.int .i64 (ws.length : Int)) (by kernel_rfl) (by kernel_rfl) ?_
  by_cases hc10 : (ws.length : Int) > (0 : Int)
  · skip
    refine ql (.bool true) (by kernel_rfl) (R_bool (p := (ws.length : Int) > (0 : Int)) (by kernel_rfl) (hc10)) ?_
    refine wpList_nil ?_
    refine x_then ?_
    refine wp_cond_true (by kernel_rfl) ?_
    refine wp_skip ?_
    refine x_then ?_
    refine wp_block ?_
    refine wp_seq ?_
    refine wp_region_lit ?_
    refine ql (.slice Aw ws.length cw) (by kernel_rfl) (by kernel_rfl) ?_
    refine ql (.slice Aw ws.length cw) (by kernel_rfl) (by kernel_rfl) ?_
    refine ql (.int .i64 (ws.length : Int)) (by kernel_rfl) (by kernel_rfl) ?_
    refine ql (.int .i64 ((ws.length : Int) - 1)) (by kernel_rfl) (R_int (by kernel_rfl) (w64 (by omega))) ?_
    obtain ⟨g11, rfl⟩ := St.rsome HS (i := 0) rfl (by omega)
    refine ql (.pointer (some ⟨g11, ((ws.length : Int) - 1).toNat, none⟩)) (by kernel_rfl) (R_index1 (k := .i64) (g := g11) (n := ws.length) (c := cw) (i := (ws.length : Int) - 1) (by kernel_rfl) (by kernel_rfl) Try.underlying28 (by kernel_rfl) (by omega) (by omega)) ?_
    refine ql (.int .i64 (rdI ws ((ws.length : Int) - 1))) (by kernel_rfl) (R_load (p := ⟨g11, ((ws.length : Int) - 1).toNat, none⟩) (by kernel_rfl) (by kernel_rfl) (by kernel_rfl) (HS.rcell (i := 0) rfl (ci_rd (by omega) (by omega)))) ?_
    refine ql (.int .i64 (rdI ws ((ws.length : Int) - 1))) (by kernel_rfl) (by kernel_rfl) ?_
    refine wpList_nil ?_
    refine x_then ?_
    refine wp_seq ?_
    refine wp_region_lit ?_
    refine ql (.slice (some ⟨g11, 0, none⟩) ws.length cw) (by kernel_rfl) (by kernel_rfl) ?_
    refine ql (.slice (some ⟨g11, 0, none⟩) ws.length cw) (by kernel_rfl) (by kernel_rfl) ?_
    refine ql (.int .i64 (ws.length : Int)) (by kernel_rfl) (by kernel_rfl) ?_
    refine ql (.int .i64 ((ws.length : Int) - 1)) (by kernel_rfl) (R_int (by kernel_rfl) (w64 (by omega))) ?_
    obtain ⟨xs12, xs12_⟩ : ∃ z_ : List Int, z_ = (ws).take (ws.length - 1) := ⟨_, rfl⟩
    have xs12l : xs12.length = ws.length - 1 := by rw [xs12_, List.length_take]; omega
    replace HS : St W (owns []) W9 [row (some ⟨g11, 0, none⟩) xs12.length cw (ci .i64 xs12) 3 1, row (some ⟨g2, 0, none⟩) N N (ci .i64 bs) 3 1] := HS.cutRow (i := 0) rfl xs12.length _ (by omega) (by rw [xs12l, ci_take, xs12_])
    refine ql (.slice (some ⟨g11, 0, none⟩) xs12.length cw) (by kernel_rfl) (R_eq (R_sliceH (z := 1) (k := .i64) (A := some ⟨g11, 0, none⟩) (n := ws.length) (c := cw) (i := (ws.length : Int) - 1) (by kernel_rfl) (by kernel_rfl) Try.underlying28 (by kernel_rfl) (by omega) (by have := (St.rcap HS (i := 0) rfl).1; omega)) (by rw [show ((ws.length : Int) - 1).toNat = xs12.length by omega])) ?_
    refine ql (.slice (some ⟨g11, 0, none⟩) xs12.length cw) (by kernel_rfl) (by kernel_rfl) ?_
    refine wpList_nil ?_
    refine x_then ?_
    refine wp_seq ?_
    refine wp_region_lit ?_
    refine ql (.pointer (some ⟨g, 0, none⟩)) (by kernel_rfl) (by kernel_rfl) ?_
    refine ql (.int .i64 (rdI ws ((ws.length : Int) - 1))) (by kernel_rfl) (by kernel_rfl) ?_
    refine qc (f := 15) (args := #[.pointer (some ⟨g, 0, none⟩), .int .i64 (rdI ws ((ws.length : Int) - 1))]) (by kernel_rfl) (R_call #[.pointer (some ⟨g, 0, none⟩), .int .i64 (rdI ws ((ws.length : Int) - 1))] Try.func15 (by kernel_rfl) (by kernel_rfl) (by kernel_rfl)) ?_
    have htm := hI.1.work (rdI ws ((ws.length : Int) - 1)) (List.mem_of_getElem? (rdI_eq (xs := ws) (by omega) (by omega)))
    refine (next_yes g N arcs _ (hG.below (HS.kept.below owns_nil)) (rdI ws ((ws.length : Int) - 1)) htm.1 htm.2.1).mono ?_
    rintro e W13 ⟨A9, c9, rfl, H_⟩
    refine ⟨_, rfl, ?_⟩
    replace HS : St W (owns []) W13 [row A9 ((nexts arcs (rdI ws ((ws.length : Int) - 1))).length) c9 (ci .i64 (nexts arcs (rdI ws ((ws.length : Int) - 1)))) 3 1, row (some ⟨g11, 0, none⟩) xs12.length cw (ci .i64 xs12) 3 1, row (some ⟨g2, 0, none⟩) N N (ci .i64 bs) 3 1] := HS.join (F := []) (G := [row A9 ((nexts arcs (rdI ws ((ws.length : Int) - 1))).length) c9 (ci .i64 (nexts arcs (rdI ws ((ws.length : Int) - 1)))) 3 1]) H_
    clear H_
    refine ql (.int .i64 ((nexts arcs (rdI ws ((ws.length : Int) - 1))).length : Int)) (by kernel_rfl) (by kernel_rfl) ?_
    refine ql (.int .i64 0) (by kernel_rfl) (by kernel_rfl) ?_
    refine wpList_nil ?_
    refine x_then ?_
    refine wp_block ?_
    have hrs := rin_start hI (by omega) rfl xs12_
    refine wp_loop_ghost (fun kq a' w' => ∃ (j9 : Value) (j50 : Value) (j51 : Value) (j52 : Value) (j53 : Value) (j54 : Value) (j55 : Value) (j56 : Value) (j57 : Value) (j58 : Value) (j59 : Value) (j60 : Value) (j61 : Value) (j62 : Value) (j63 : Value) (j64 : Value) (j65 : Value) (q : Int) (Aw2 : Option Addr) (cw2 : Nat) (ws2 : List Int) (bs2 : List Int) , a' = Fr ((.pointer (some ⟨g, 0, none⟩)) :: (.int .i64 v) :: undef :: undef :: (.slice none 0 0) :: (.slice (some ⟨g2, 0, none⟩) N N) :: (.slice Aw2 ws2.length cw2) :: (.int .i64 (rdI ws ((ws.length : Int) - 1))) :: undef :: j9 :: undef :: undef :: undef :: (.int .i64 v) :: (.bool false) :: (.bool false) :: (.int .i64 v) :: (.pointer (some ⟨g, 0, none⟩)) :: (.int .i64 (N : Int)) :: (.bool false) :: (.bool false) :: (.pointer (some ⟨g, 0, none⟩)) :: (.pointer (some ⟨g, 0, none⟩)) :: (.pointer (some ⟨g, 0, none⟩)) :: (.int .i64 (N : Int)) :: (.slice (some ⟨g2, 0, none⟩) N N) :: (.slice (some ⟨g2, 0, none⟩) N N) :: (.int .i64 v) :: (.pointer (some ⟨g2, v.toNat, none⟩)) :: (.int .i64 v) :: (.slice (some ⟨g6, 0, none⟩) 1 1) :: (.slice (some ⟨g11, 0, none⟩) ws.length cw) :: (.int .i64 (ws.length : Int)) :: (.bool true) :: (.slice (some ⟨g11, 0, none⟩) ws.length cw) :: (.slice (some ⟨g11, 0, none⟩) ws.length cw) :: (.int .i64 (ws.length : Int)) :: (.int .i64 ((ws.length : Int) - 1)) :: (.pointer (some ⟨g11, ((ws.length : Int) - 1).toNat, none⟩)) :: (.int .i64 (rdI ws ((ws.length : Int) - 1))) :: (.slice (some ⟨g11, 0, none⟩) ws.length cw) :: (.slice (some ⟨g11, 0, none⟩) ws.length cw) :: (.int .i64 (ws.length : Int)) :: (.int .i64 ((ws.length : Int) - 1)) :: (.slice (some ⟨g11, 0, none⟩) xs12.length cw) :: (.pointer (some ⟨g, 0, none⟩)) :: (.int .i64 (rdI ws ((ws.length : Int) - 1))) :: (.slice A9 ((nexts arcs (rdI ws ((ws.length : Int) - 1))).length) c9) :: (.int .i64 ((nexts arcs (rdI ws ((ws.length : Int) - 1))).length : Int)) :: (.int .i64 q) :: j50 :: j51 :: j52 :: j53 :: j54 :: j55 :: j56 :: j57 :: j58 :: j59 :: j60 :: j61 :: j62 :: j63 :: j64 :: j65 :: undef :: undef :: undef :: undef :: undef :: undef :: undef :: undef :: undef :: undef :: undef :: undef :: undef :: undef :: undef :: []) ∧ kq = ((nexts arcs (rdI ws ((ws.length : Int) - 1))).length - (q).toNat) ∧ (0 ≤ q) ∧ (q ≤ (nexts arcs (rdI ws ((ws.length : Int) - 1))).length) ∧ (RIn N arcs v (rdI ws ((ws.length : Int) - 1)) (q).toNat bs2 ws2) ∧ (ws2.length + zs bs2 = ws.length - 1 + zs bs) ∧ St W (owns []) w' [row A9 ((nexts arcs (rdI ws ((ws.length : Int) - 1))).length) c9 (ci .i64 (nexts arcs (rdI ws ((ws.length : Int) - 1)))) 3 1, row Aw2 ws2.length cw2 (ci .i64 ws2) 3 1, row (some ⟨g2, 0, none⟩) N N (ci .i64 bs2) 3 1]) ((nexts arcs (rdI ws ((ws.length : Int) - 1))).length - ((0 : Int)).toNat) ⟨(j9 : Value), (j50 : Value), (j51 : Value), (j52 : Value), (j53 : Value), (j54 : Value), (j55 : Value), (j56 : Value), (j57 : Value), (j58 : Value), (j59 : Value), (j60 : Value), (j61 : Value), (j62 : Value), (j63 : Value), (j64 : Value), (j65 : Value), (0 : Int), some ⟨g11, 0, none⟩, cw, xs12, bs, congrArg Fr (by kernel_rfl), rfl, by omega, by omega, hrs, by omega, HS⟩ ?_
    clear HS
    intro kq14 a' W15 hrel
    obtain ⟨j9, j50, j51, j52, j53, j54, j55, j56, j57, j58, j59, j60, j61, j62, j63, j64, j65, q, Aw2, cw2, ws2, bs2, rfl, hk, q0, q1, hJ, hz, HS⟩ := hrel
    have hbl2 := hJ.1.len
    have hzl2 := zs_le bs2
    have hnl := idxs_le false arcs (rdI ws ((ws.length : Int) - 1))
    rw [← nexts_len] at hnl
    refine wp_seq ?_
    refine wp_region_lit ?_
    by_cases hc16 : q < ((nexts arcs (rdI ws ((ws.length : Int) - 1))).length : Int)
    · skip
      refine ql (.bool true) (by kernel_rfl) (R_bool (p := q < ((nexts arcs (rdI ws ((ws.length : Int) - 1))).length : Int)) (by kernel_rfl) (hc16)) ?_
      refine wpList_nil ?_
      refine x_then ?_
      refine wp_seq ?_
      refine wp_cond_true (by kernel_rfl) ?_
      refine wp_skip ?_
      refine x_then ?_
      refine wp_seq ?_
      refine wp_block ?_
      refine wp_seq ?_
      have hqx := rdI_eq (xs := nexts arcs (rdI ws ((ws.length : Int) - 1))) q0 (by omega)
      have hw : 0 ≤ rdI (nexts arcs (rdI ws ((ws.length : Int) - 1))) q ∧ rdI (nexts arcs (rdI ws ((ws.length : Int) - 1))) q < N := by have := hF _ (mem_nexts.1 (List.mem_of_getElem? hqx)); omega
      have hbit := hJ.1.bit _ hw.1 hw.2
      refine wp_region_lit ?_
      obtain ⟨g17, rfl⟩ := St.rsome HS (i := 0) rfl (by omega)
      refine ql (.pointer (some ⟨g17, q.toNat, none⟩)) (by kernel_rfl) (R_index1 (k := .i64) (g := g17) (n := ((nexts arcs (rdI ws ((ws.length : Int) - 1))).length)) (c := c9) (i := q) (by kernel_rfl) (by kernel_rfl) Try.underlying28 (by kernel_rfl) (by omega) (by omega)) ?_
      refine ql (.int .i64 (rdI (nexts arcs (rdI ws ((ws.length : Int) - 1))) q)) (by kernel_rfl) (R_load (p := ⟨g17, q.toNat, none⟩) (by kernel_rfl) (by kernel_rfl) (by kernel_rfl) (HS.rcell (i := 0) rfl (ci_rd (by omega) (by omega)))) ?_
      refine ql (.int .i64 (rdI (nexts arcs (rdI ws ((ws.length : Int) - 1))) q)) (by kernel_rfl) (by kernel_rfl) ?_
      refine wpList_nil ?_
      refine x_then ?_
      refine wp_seq ?_
      refine wp_region_lit ?_
      refine ql (.slice (some ⟨g2, 0, none⟩) N N) (by kernel_rfl) (by kernel_rfl) ?_
      refine ql (.int .i64 (rdI (nexts arcs (rdI ws ((ws.length : Int) - 1))) q)) (by kernel_rfl) (by kernel_rfl) ?_
      refine ql (.pointer (some ⟨g2, (rdI (nexts arcs (rdI ws ((ws.length : Int) - 1))) q).toNat, none⟩)) (by kernel_rfl) (R_index1 (k := .i64) (g := g2) (n := N) (c := N) (i := rdI (nexts arcs (rdI ws ((ws.length : Int) - 1))) q) (by kernel_rfl) (by kernel_rfl) Try.underlying28 (by kernel_rfl) (by omega) (by omega)) ?_
      refine ql (.int .i64 (rdI bs2 (rdI (nexts arcs (rdI ws ((ws.length : Int) - 1))) q))) (by kernel_rfl) (R_load (p := ⟨g2, (rdI (nexts arcs (rdI ws ((ws.length : Int) - 1))) q).toNat, none⟩) (by kernel_rfl) (by kernel_rfl) (by kernel_rfl) (HS.rcell (i := 2) rfl (ci_rd (by omega) (by omega)))) ?_
      by_cases hc18 : (rdI bs2 (rdI (nexts arcs (rdI ws ((ws.length : Int) - 1))) q)) = (0 : Int)
      · skip
        refine ql (.bool true) (by kernel_rfl) (R_beq (b := (rdI bs2 (rdI (nexts arcs (rdI ws ((ws.length : Int) - 1))) q) == (0 : Int))) (by kernel_rfl) (beq_t (hc18))) ?_
        refine wpList_nil ?_
        refine x_then ?_
        refine wp_cond_true (by kernel_rfl) ?_
        refine wp_seq ?_
        refine wp_region_lit ?_
        refine ql (.slice (some ⟨g2, 0, none⟩) N N) (by kernel_rfl) (by kernel_rfl) ?_
        refine ql (.int .i64 (rdI (nexts arcs (rdI ws ((ws.length : Int) - 1))) q)) (by kernel_rfl) (by kernel_rfl) ?_
        refine ql (.pointer (some ⟨g2, (rdI (nexts arcs (rdI ws ((ws.length : Int) - 1))) q).toNat, none⟩)) (by kernel_rfl) (R_index1 (k := .i64) (g := g2) (n := N) (c := N) (i := rdI (nexts arcs (rdI ws ((ws.length : Int) - 1))) q) (by kernel_rfl) (by kernel_rfl) Try.underlying28 (by kernel_rfl) (by omega) (by omega)) ?_
        refine kr (v := .int .i64 1) HS 2 rfl ((rdI (nexts arcs (rdI ws ((ws.length : Int) - 1))) q).toNat) [.int .i64 1] (by kernel_rfl) (by kernel_rfl) (by kernel_rfl) (by kernel_rfl) (by kernel_rfl) (one_ (by kernel_rfl)) (by rw [ci_len]; first | omega | (simp only [List.length_singleton]; omega)) rfl ?_
        intro W19 H_
        obtain ⟨xs20, xs20_⟩ : ∃ z_ : List Int, z_ = (bs2).set (rdI (nexts arcs (rdI ws ((ws.length : Int) - 1))) q).toNat 1 := ⟨_, rfl⟩
        replace HS : St W (owns []) W19 [row (some ⟨g17, 0, none⟩) ((nexts arcs (rdI ws ((ws.length : Int) - 1))).length) c9 (ci .i64 (nexts arcs (rdI ws ((ws.length : Int) - 1)))) 3 1, row Aw2 ws2.length cw2 (ci .i64 ws2) 3 1, row (some ⟨g2, 0, none⟩) N N (ci .i64 xs20) 3 1] := H_.cast_ (by rw [xs20_, ← ci_set]; rfl)
        clear H_
        have xs20l : xs20.length = N := by rw [xs20_, List.length_set]; omega
        refine wpList_nil ?_
        refine x_then ?_
        refine wp_region_lit ?_
        refine ql (.slice Aw2 ws2.length cw2) (by kernel_rfl) (by kernel_rfl) ?_
        refine ql (.int .i64 (rdI (nexts arcs (rdI ws ((ws.length : Int) - 1))) q)) (by kernel_rfl) (by kernel_rfl) ?_
        refine kl HS 1 [.int .i64 (rdI (nexts arcs (rdI ws ((ws.length : Int) - 1))) q)] 3 1 (by kernel_rfl) (by kernel_rfl) rfl (by decide) ?_
        intro g21 W22 H_
        replace HS : St W (owns []) W22 [row (some ⟨g21, 0, none⟩) 1 1 (ci .i64 ([rdI (nexts arcs (rdI ws ((ws.length : Int) - 1))) q])) 3 1, row (some ⟨g17, 0, none⟩) ((nexts arcs (rdI ws ((ws.length : Int) - 1))).length) c9 (ci .i64 (nexts arcs (rdI ws ((ws.length : Int) - 1)))) 3 1, row Aw2 ws2.length cw2 (ci .i64 ws2) 3 1, row (some ⟨g2, 0, none⟩) N N (ci .i64 xs20) 3 1] := H_.cast_ (by kernel_rfl)
        clear H_
        obtain ⟨xs26, xs26_⟩ : ∃ z_ : List Int, z_ = ws2 ++ ([rdI (nexts arcs (rdI ws ((ws.length : Int) - 1))) q]) := ⟨_, rfl⟩
        have xs26l : xs26.length = ws2.length + 1 := by rw [xs26_, List.length_append] <;> (try simp only [List.length_cons, List.length_nil]) <;> omega
        refine ka1 HS 2 rfl (Src.of_row HS (i := 0) rfl ci_one) [.int .i64 0] 8 xs26.length (ci .i64 xs26) (by omega) (by rw [xs26_, ci_app]) (by kernel_rfl) (by kernel_rfl) (by kernel_rfl) Try.underlying28 (by kernel_rfl) (by kernel_rfl) (by kernel_rfl) (by kernel_rfl) (by decide) (by omega) (by omega) ?_
        intro A23 c24 W25 H_
        replace HS : St W (owns []) W25 [row (some ⟨g21, 0, none⟩) 1 1 (ci .i64 ([rdI (nexts arcs (rdI ws ((ws.length : Int) - 1))) q])) 3 1, row (some ⟨g17, 0, none⟩) ((nexts arcs (rdI ws ((ws.length : Int) - 1))).length) c9 (ci .i64 (nexts arcs (rdI ws ((ws.length : Int) - 1)))) 3 1, row A23 xs26.length c24 (ci .i64 xs26) 3 1, row (some ⟨g2, 0, none⟩) N N (ci .i64 xs20) 3 1] := H_
        clear H_
        refine ql (.slice A23 xs26.length c24) (by kernel_rfl) (by kernel_rfl) ?_
        refine wpList_nil ?_
        refine x_inb ?_
        refine x_then ?_
        refine wp_region_lit ?_
        refine ql (.int .i64 (q + 1)) (by kernel_rfl) (R_int (by kernel_rfl) (w64 (by omega))) ?_
        refine ql (.int .i64 (q + 1)) (by kernel_rfl) (by kernel_rfl) ?_
        refine wpList_nil ?_
        replace HS := HS.drop1
        have hrn := rin_new hJ hqx hw.1 hw.2 xs20_ xs26_
        have hzz := zs_set (bs := bs2) hw.1 (by omega) (by omega)
        rw [← xs20_] at hzz
        rw [show q.toNat + 1 = (q + 1).toNat by omega] at hrn
        refine x_then ?_
        exact ⟨(nexts arcs (rdI ws ((ws.length : Int) - 1))).length - (q + 1).toNat, by omega, (.int .i64 (rdI (nexts arcs (rdI ws ((ws.length : Int) - 1))) q) : Value), (.bool true : Value), (.pointer (some ⟨g17, q.toNat, none⟩) : Value), (.int .i64 (rdI (nexts arcs (rdI ws ((ws.length : Int) - 1))) q) : Value), (.slice (some ⟨g2, 0, none⟩) N N : Value), (.int .i64 (rdI (nexts arcs (rdI ws ((ws.length : Int) - 1))) q) : Value), (.pointer (some ⟨g2, (rdI (nexts arcs (rdI ws ((ws.length : Int) - 1))) q).toNat, none⟩) : Value), (.int .i64 (rdI bs2 (rdI (nexts arcs (rdI ws ((ws.length : Int) - 1))) q)) : Value), (.bool true : Value), (.slice (some ⟨g2, 0, none⟩) N N : Value), (.int .i64 (rdI (nexts arcs (rdI ws ((ws.length : Int) - 1))) q) : Value), (.pointer (some ⟨g2, (rdI (nexts arcs (rdI ws ((ws.length : Int) - 1))) q).toNat, none⟩) : Value), (.slice Aw2 ws2.length cw2 : Value), (.int .i64 (rdI (nexts arcs (rdI ws ((ws.length : Int) - 1))) q) : Value), (.slice (some ⟨g21, 0, none⟩) 1 1 : Value), (.slice A23 xs26.length c24 : Value), (.int .i64 (q + 1) : Value), q + 1, A23, c24, xs26, xs20, congrArg Fr (by kernel_rfl), rfl, by omega, by omega, hrn, by omega, HS⟩
      · skip
        refine ql (.bool false) (by kernel_rfl) (R_beq (b := (rdI bs2 (rdI (nexts arcs (rdI ws ((ws.length : Int) - 1))) q) == (0 : Int))) (by kernel_rfl) (beq_f (hc18))) ?_
        refine wpList_nil ?_
        refine x_then ?_
        refine wp_cond_false (by kernel_rfl) ?_
        refine wp_skip ?_
        refine x_inb ?_
        refine x_then ?_
        refine wp_region_lit ?_
        refine ql (.int .i64 (q + 1)) (by kernel_rfl) (R_int (by kernel_rfl) (w64 (by omega))) ?_
        refine ql (.int .i64 (q + 1)) (by kernel_rfl) (by kernel_rfl) ?_
        refine wpList_nil ?_
        have hmk : Mk N bs2 (rdI (nexts arcs (rdI ws ((ws.length : Int) - 1))) q) := ⟨hw.1, hw.2, by omega⟩
        have hrn := rin_old hJ hqx hmk
        rw [show q.toNat + 1 = (q + 1).toNat by omega] at hrn
        refine x_then ?_
        exact ⟨(nexts arcs (rdI ws ((ws.length : Int) - 1))).length - (q + 1).toNat, by omega, (.int .i64 (rdI (nexts arcs (rdI ws ((ws.length : Int) - 1))) q) : Value), (.bool true : Value), (.pointer (some ⟨g17, q.toNat, none⟩) : Value), (.int .i64 (rdI (nexts arcs (rdI ws ((ws.length : Int) - 1))) q) : Value), (.slice (some ⟨g2, 0, none⟩) N N : Value), (.int .i64 (rdI (nexts arcs (rdI ws ((ws.length : Int) - 1))) q) : Value), (.pointer (some ⟨g2, (rdI (nexts arcs (rdI ws ((ws.length : Int) - 1))) q).toNat, none⟩) : Value), (.int .i64 (rdI bs2 (rdI (nexts arcs (rdI ws ((ws.length : Int) - 1))) q)) : Value), (.bool false : Value), (j58 : Value), (j59 : Value), (j60 : Value), (j61 : Value), (j62 : Value), (j63 : Value), (j64 : Value), (.int .i64 (q + 1) : Value), q + 1, Aw2, cw2, ws2, bs2, congrArg Fr (by kernel_rfl), rfl, by omega, by omega, hrn, by omega, HS⟩
    · skip
      refine ql (.bool false) (by kernel_rfl) (R_nbool (p := q < ((nexts arcs (rdI ws ((ws.length : Int) - 1))).length : Int)) (by kernel_rfl) (hc16)) ?_
      refine wpList_nil ?_
      refine x_then ?_
      refine wp_seq ?_
      refine wp_cond_false (by kernel_rfl) ?_
      refine wp_exit ?_
      refine x_thenE ?_
      refine x_thenE ?_
      refine x_hit ?_
      refine x_inb ?_
      replace HS := HS.drop1
      have hrd := rin_done hJ (by omega)
      refine x_then ?_
      exact ⟨ws2.length + zs bs2, by omega, (.int .i64 (rdI ws ((ws.length : Int) - 1)) : Value), (j9 : Value), (.slice (some ⟨g11, 0, none⟩) ws.length cw : Value), (.int .i64 (ws.length : Int) : Value), (.bool true : Value), (.slice (some ⟨g11, 0, none⟩) ws.length cw : Value), (.slice (some ⟨g11, 0, none⟩) ws.length cw : Value), (.int .i64 (ws.length : Int) : Value), (.int .i64 ((ws.length : Int) - 1) : Value), (.pointer (some ⟨g11, ((ws.length : Int) - 1).toNat, none⟩) : Value), (.int .i64 (rdI ws ((ws.length : Int) - 1)) : Value), (.slice (some ⟨g11, 0, none⟩) ws.length cw : Value), (.slice (some ⟨g11, 0, none⟩) ws.length cw : Value), (.int .i64 (ws.length : Int) : Value), (.int .i64 ((ws.length : Int) - 1) : Value), (.slice (some ⟨g11, 0, none⟩) xs12.length cw : Value), (.pointer (some ⟨g, 0, none⟩) : Value), (.int .i64 (rdI ws ((ws.length : Int) - 1)) : Value), (.slice A9 ((nexts arcs (rdI ws ((ws.length : Int) - 1))).length) c9 : Value), (.int .i64 ((nexts arcs (rdI ws ((ws.length : Int) - 1))).length : Int) : Value), (.int .i64 q : Value), (.bool false : Value), (j51 : Value), (j52 : Value), (j53 : Value), (j54 : Value), (j55 : Value), (j56 : Value), (j57 : Value), (j58 : Value), (j59 : Value), (j60 : Value), (j61 : Value), (j62 : Value), (j63 : Value), (j64 : Value), (j65 : Value), Aw2, cw2, ws2, bs2, congrArg Fr (by kernel_rfl), rfl, hrd, by omega, HS⟩
  · skip
    refine ql (.bool false) (by kernel_rfl) (R_nbool (p := (ws.length : Int) > (0 : Int)) (by kernel_rfl) (hc10)) ?_
    refine wpList_nil ?_
    refine x_then ?_
    refine wp_cond_false (by kernel_rfl) ?_
    refine wp_exit ?_
    refine x_thenE ?_
    refine x_thenE ?_
    refine x_hit ?_
    refine x_then ?_
    refine wp_seq ?_
    refine wp_region_lit ?_
    refine ql (.slice none 0 0) (by kernel_rfl) (by kernel_rfl) ?_
    refine wpList_nil ?_
    refine x_then ?_
    refine wp_seq ?_
    refine wp_seq ?_
    refine wp_region_lit ?_
    refine ql (.slice (some ⟨g2, 0, none⟩) N N) (by kernel_rfl) (by kernel_rfl) ?_
    refine ql (.int .i64 (N : Int)) (by kernel_rfl) (by kernel_rfl) ?_
    refine ql (.int .i64 0) (by kernel_rfl) (by kernel_rfl) ?_
    refine wpList_nil ?_
    refine x_then ?_
    refine wp_block ?_
    have hw0 : ws = [] := List.eq_nil_of_length_eq_zero (by omega)
    have hI0 : RInv N arcs v bs [] := by rw [← hw0]; exact hI
    replace HS := HS.drop1
    replace HS : St W (owns []) W9 [row none 0 0 (ci .i64 ([])) 3 1, row (some ⟨g2, 0, none⟩) N N (ci .i64 bs) 3 1] := (HS.nilRow 3 1).cast_ (by kernel_rfl)
    refine wp_loop_ghost (fun kq a' w' => ∃ (j11 : Value) (j12 : Value) (j69 : Value) (j70 : Value) (j71 : Value) (j72 : Value) (j73 : Value) (j74 : Value) (j75 : Value) (j76 : Value) (j77 : Value) (j78 : Value) (j79 : Value) (p : Int) (Ao : Option Addr) (co : Nat) (os_ : List Int) , a' = Fr ((.pointer (some ⟨g, 0, none⟩)) :: (.int .i64 v) :: undef :: undef :: (.slice none 0 0) :: (.slice (some ⟨g2, 0, none⟩) N N) :: (.slice Aw ws.length cw) :: j7 :: undef :: j9 :: (.slice Ao os_.length co) :: j11 :: j12 :: (.int .i64 v) :: (.bool false) :: (.bool false) :: (.int .i64 v) :: (.pointer (some ⟨g, 0, none⟩)) :: (.int .i64 (N : Int)) :: (.bool false) :: (.bool false) :: (.pointer (some ⟨g, 0, none⟩)) :: (.pointer (some ⟨g, 0, none⟩)) :: (.pointer (some ⟨g, 0, none⟩)) :: (.int .i64 (N : Int)) :: (.slice (some ⟨g2, 0, none⟩) N N) :: (.slice (some ⟨g2, 0, none⟩) N N) :: (.int .i64 v) :: (.pointer (some ⟨g2, v.toNat, none⟩)) :: (.int .i64 v) :: (.slice (some ⟨g6, 0, none⟩) 1 1) :: (.slice Aw ws.length cw) :: (.int .i64 (ws.length : Int)) :: (.bool false) :: j34 :: j35 :: j36 :: j37 :: j38 :: j39 :: j40 :: j41 :: j42 :: j43 :: j44 :: j45 :: j46 :: j47 :: j48 :: j49 :: j50 :: j51 :: j52 :: j53 :: j54 :: j55 :: j56 :: j57 :: j58 :: j59 :: j60 :: j61 :: j62 :: j63 :: j64 :: j65 :: (.slice (some ⟨g2, 0, none⟩) N N) :: (.int .i64 (N : Int)) :: (.int .i64 p) :: j69 :: j70 :: j71 :: j72 :: j73 :: j74 :: j75 :: j76 :: j77 :: j78 :: j79 :: undef :: []) ∧ kq = (N - (p).toNat) ∧ (0 ≤ p) ∧ (p ≤ N) ∧ (os_ = mkd (p).toNat bs) ∧ St W (owns []) w' [row Ao os_.length co (ci .i64 os_) 3 1, row (some ⟨g2, 0, none⟩) N N (ci .i64 bs) 3 1]) (N - ((0 : Int)).toNat) ⟨(undef : Value), (undef : Value), (undef : Value), (undef : Value), (undef : Value), (undef : Value), (undef : Value), (undef : Value), (undef : Value), (undef : Value), (undef : Value), (undef : Value), (undef : Value), (0 : Int), none, 0, ([] : List Int), congrArg Fr (by kernel_rfl), rfl, by omega, by omega, by unfold mkd; rfl, HS⟩ ?_
    clear HS
    intro kq27 a' W28 hrel
    obtain ⟨j11, j12, j69, j70, j71, j72, j73, j74, j75, j76, j77, j78, j79, p, Ao, co, os_, rfl, hk, p0, p1, ho, HS⟩ := hrel
    have hol : os_.length ≤ p.toNat := by rw [ho]; exact mkd_le _ _
    refine wp_seq ?_
    refine wp_region_lit ?_
    by_cases hc29 : p < (N : Int)
    · skip
      refine ql (.bool true) (by kernel_rfl) (R_bool (p := p < (N : Int)) (by kernel_rfl) (hc29)) ?_
      refine wpList_nil ?_
      refine x_then ?_
      refine wp_seq ?_
      refine wp_cond_true (by kernel_rfl) ?_
      refine wp_skip ?_
      refine x_then ?_
      refine wp_seq ?_
      refine wp_block ?_
      refine wp_seq ?_
      refine wp_region_lit ?_
      refine ql (.int .i64 p) (by kernel_rfl) (by kernel_rfl) ?_
      refine ql (.pointer (some ⟨g2, p.toNat, none⟩)) (by kernel_rfl) (R_index1 (k := .i64) (g := g2) (n := N) (c := N) (i := p) (by kernel_rfl) (by kernel_rfl) Try.underlying28 (by kernel_rfl) (by omega) (by omega)) ?_
      refine ql (.int .i64 (rdI bs p)) (by kernel_rfl) (R_load (p := ⟨g2, p.toNat, none⟩) (by kernel_rfl) (by kernel_rfl) (by kernel_rfl) (HS.rcell (i := 1) rfl (ci_rd (by omega) (by omega)))) ?_
      refine ql (.int .i64 p) (by kernel_rfl) (by kernel_rfl) ?_
      refine ql (.int .i64 (rdI bs p)) (by kernel_rfl) (by kernel_rfl) ?_
      refine wpList_nil ?_
      refine x_then ?_
      refine wp_seq ?_
      refine wp_region_lit ?_
      refine ql (.int .i64 (rdI bs p)) (by kernel_rfl) (by kernel_rfl) ?_
      by_cases hc30 : (rdI bs p) > (0 : Int)
      · skip
        refine ql (.bool true) (by kernel_rfl) (R_bool (p := (rdI bs p) > (0 : Int)) (by kernel_rfl) (hc30)) ?_
        refine wpList_nil ?_
        refine x_then ?_
        refine wp_cond_true (by kernel_rfl) ?_
        refine wp_region_lit ?_
        refine ql (.slice Ao os_.length co) (by kernel_rfl) (by kernel_rfl) ?_
        refine ql (.int .i64 p) (by kernel_rfl) (by kernel_rfl) ?_
        refine kl HS 1 [.int .i64 p] 3 1 (by kernel_rfl) (by kernel_rfl) rfl (by decide) ?_
        intro g31 W32 H_
        replace HS : St W (owns []) W32 [row (some ⟨g31, 0, none⟩) 1 1 (ci .i64 ([p])) 3 1, row Ao os_.length co (ci .i64 os_) 3 1, row (some ⟨g2, 0, none⟩) N N (ci .i64 bs) 3 1] := H_.cast_ (by kernel_rfl)
        clear H_
        obtain ⟨xs36, xs36_⟩ : ∃ z_ : List Int, z_ = os_ ++ ([p]) := ⟨_, rfl⟩
        have xs36l : xs36.length = os_.length + 1 := by rw [xs36_, List.length_append] <;> (try simp only [List.length_cons, List.length_nil]) <;> omega
        refine ka1 HS 1 rfl (Src.of_row HS (i := 0) rfl ci_one) [.int .i64 0] 8 xs36.length (ci .i64 xs36) (by omega) (by rw [xs36_, ci_app]) (by kernel_rfl) (by kernel_rfl) (by kernel_rfl) Try.underlying28 (by kernel_rfl) (by kernel_rfl) (by kernel_rfl) (by kernel_rfl) (by decide) (by omega) (by omega) ?_
        intro A33 c34 W35 H_
        replace HS : St W (owns []) W35 [row (some ⟨g31, 0, none⟩) 1 1 (ci .i64 ([p])) 3 1, row A33 xs36.length c34 (ci .i64 xs36) 3 1, row (some ⟨g2, 0, none⟩) N N (ci .i64 bs) 3 1] := H_
        clear H_
        refine ql (.slice A33 xs36.length c34) (by kernel_rfl) (by kernel_rfl) ?_
        refine wpList_nil ?_
        refine x_inb ?_
        refine x_then ?_
        refine wp_region_lit ?_
        refine ql (.int .i64 (p + 1)) (by kernel_rfl) (R_int (by kernel_rfl) (w64 (by omega))) ?_
        refine ql (.int .i64 (p + 1)) (by kernel_rfl) (by kernel_rfl) ?_
        refine wpList_nil ?_
        replace HS := HS.drop1
        have hms := mkd_step (bs := bs) p0
        rw [if_pos hc30, ← ho] at hms
        refine x_then ?_
        exact ⟨N - (p + 1).toNat, by omega, (.int .i64 p : Value), (.int .i64 (rdI bs p) : Value), (.bool true : Value), (.int .i64 p : Value), (.pointer (some ⟨g2, p.toNat, none⟩) : Value), (.int .i64 (rdI bs p) : Value), (.int .i64 (rdI bs p) : Value), (.bool true : Value), (.slice Ao os_.length co : Value), (.int .i64 p : Value), (.slice (some ⟨g31, 0, none⟩) 1 1 : Value), (.slice A33 xs36.length c34 : Value), (.int .i64 (p + 1) : Value), p + 1, A33, c34, xs36, congrArg Fr (by kernel_rfl), rfl, by omega, by omega, by rw [hms, xs36_], HS⟩
      · skip
        refine ql (.bool false) (by kernel_rfl) (R_nbool (p := (rdI bs p) > (0 : Int)) (by kernel_rfl) (hc30)) ?_
        refine wpList_nil ?_
        refine x_then ?_
        refine wp_cond_false (by kernel_rfl) ?_
        refine wp_skip ?_
        refine x_inb ?_
        refine x_then ?_
        refine wp_region_lit ?_
        refine ql (.int .i64 (p + 1)) (by kernel_rfl) (R_int (by kernel_rfl) (w64 (by omega))) ?_
        refine ql (.int .i64 (p + 1)) (by kernel_rfl) (by kernel_rfl) ?_
        refine wpList_nil ?_
        have hms := mkd_step (bs := bs) p0
        rw [if_neg hc30, ← ho] at hms
        refine x_then ?_
        exact ⟨N - (p + 1).toNat, by omega, (.int .i64 p : Value), (.int .i64 (rdI bs p) : Value), (.bool true : Value), (.int .i64 p : Value), (.pointer (some ⟨g2, p.toNat, none⟩) : Value), (.int .i64 (rdI bs p) : Value), (.int .i64 (rdI bs p) : Value), (.bool false : Value), (j75 : Value), (j76 : Value), (j77 : Value), (j78 : Value), (.int .i64 (p + 1) : Value), p + 1, Ao, co, os_, congrArg Fr (by kernel_rfl), rfl, by omega, by omega, by rw [hms, List.append_nil], HS⟩
    · skip
      have hre : os_ = reach N arcs v := by rw [ho, show p.toNat = N by omega]; exact mkd_reach hI0 hF
      refine ql (.bool false) (by kernel_rfl) (R_nbool (p := p < (N : Int)) (by kernel_rfl) (hc29)) ?_
      refine wpList_nil ?_
      refine x_then ?_
      refine wp_seq ?_
      refine wp_cond_false (by kernel_rfl) ?_
      refine wp_exit ?_
      refine x_thenE ?_
      refine x_thenE ?_
      refine x_hit ?_
      refine x_then ?_
      refine wp_seq ?_
      refine wp_region_lit ?_
      refine ql (.slice Ao os_.length co) (by kernel_rfl) (by kernel_rfl) ?_
      refine ql (.slice Ao os_.length co) (by kernel_rfl) (by kernel_rfl) ?_
      refine wpList_nil ?_
      refine x_then ?_
      refine wp_ret ?_
      refine ret_ (.slice Ao os_.length co) (by kernel_rfl) ?_
      replace HS : St W (owns []) W28 [row Ao os_.length co (ci .i64 os_) 3 1] := St.tail (F := [row (some ⟨g2, 0, none⟩) N N (ci .i64 bs) 3 1]) (HS.perm (perm_ [1, 0] (by kernel_rfl) rfl))
      subst hre
      exact ⟨_, _, rfl, HS⟩

end Go.Proofs.Ythfpdpjccnnlhaa.GGraphReaches
