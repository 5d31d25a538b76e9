/- Written for this claim by gp.py, a program of this session's, over the kit's print. Lean checks it. -/
import Derived.Test.YthfpdpjccnnlhaaGBfsLayersx0
import Derived.Test.YthfpdpjccnnlhaaGBfsLayershx
import Derived.Test.YthfpdpjccnnlhaaGBfsLayershhp1
import Derived.Test.YthfpdpjccnnlhaaGBfsLayershhp2
import Derived.Test.YthfpdpjccnnlhaaGBfsLayershgp
import Derived.Test.YthfpdpjccnnlhaaGBfsLayershg1
import Derived.Test.YthfpdpjccnnlhaaGBfsLayershg2
import Derived.WalkKit
import Derived.StillTailTactics
import Derived.Deep.LoopGhost
import Derived.KernelRfl
import Derived.Deep.OwnRows
import Derived.Laws.OwnMore
import Derived.Laws.MakeOwn
import Derived.Maps.AppendAt
import Derived.OrdersHeld
namespace Go.Proofs.Ythfpdpjccnnlhaa.GBfsLayers
open Go.RowKit Go.Proofs.YthfpdpjccnnlhaaW.PrintWords Go.Proofs.YthfpdpjccnnlhaaW.PrintLast Go.Proofs.YthfpdpjccnnlhaaW.PrintMore
attribute [local go_sem] max2_int min2_int max_two min_two max_three min_three max_four min_four   -- for this text's walks alone
set_option linter.unusedVariables false
set_option linter.unusedSimpArgs false

--import Derived.WalkKit
--import Derived.StillTailTactics
--import Derived.Deep.LoopGhost
--import Derived.KernelRfl
--import Derived.Deep.OwnRows
--import Derived.Laws.OwnMore
--import Derived.Laws.MakeOwn
--import Derived.Maps.AppendAt
--import Derived.OrdersHeld
attribute [local irreducible] wpStill wpList Code.wp TA

set_option maxRecDepth 100000 in
set_option maxHeartbeats 1000000 in
theorem reach_nil (W : World) (v : Int) : Calls Try.prog 14 #[.pointer none, .int .i64 v] W fun e W' => e = .returned (.slice none 0 0) ∧ St W (owns []) W' [] := by
  have HS : St W (owns []) W [] := St.start W _
  refine calls_enter ((.pointer none) :: (.int .i64 v) :: undef :: undef :: undef :: undef :: undef :: undef :: undef :: undef :: undef :: undef :: undef :: undef :: undef :: undef :: undef :: undef :: undef :: undef :: undef :: undef :: undef :: undef :: undef :: undef :: undef :: undef :: undef :: undef :: undef :: undef :: undef :: undef :: undef :: undef :: undef :: undef :: undef :: undef :: undef :: undef :: undef :: undef :: undef :: undef :: undef :: undef :: undef :: undef :: undef :: undef :: undef :: undef :: undef :: undef :: undef :: undef :: undef :: undef :: undef :: undef :: undef :: undef :: undef :: undef :: undef :: undef :: undef :: undef :: undef :: undef :: undef :: undef :: undef :: undef :: undef :: undef :: undef :: undef :: undef :: []) Try.func14 rfl (by kernel_rfl) ?_
  refine wp_seq ?_
  refine wp_region_lit ?_
  refine ql (.slice none 0 0) (by kernel_rfl) (by kernel_rfl) ?_
  refine wpList_nil ?_
  refine x_then ?_
  refine wp_seq ?_
  refine wp_seq ?_
  refine wp_region_lit ?_
  refine ql (.int .i64 v) (by kernel_rfl) (by kernel_rfl) ?_
  by_cases hc1 : v < (0 : Int)
  · skip
    refine ql (.bool true) (by kernel_rfl) (R_bool (p := v < (0 : Int)) (by kernel_rfl) (hc1)) ?_
    refine ql (.bool true) (by kernel_rfl) (by kernel_rfl) ?_
    refine qln (by kernel_rfl) ?_
    refine qln (by kernel_rfl) ?_
    refine qln (by kernel_rfl) ?_
    refine qln (by kernel_rfl) ?_
    refine ql (.bool true) (by kernel_rfl) (by kernel_rfl) ?_
    refine wpList_nil ?_
    refine x_then ?_
    refine wp_cond_true (by kernel_rfl) ?_
    refine wp_seq ?_
    refine wp_region_lit ?_
    refine ql (.slice none 0 0) (by kernel_rfl) (by kernel_rfl) ?_
    refine wpList_nil ?_
    refine x_then ?_
    refine wp_ret ?_
    refine x_thenR ?_
    refine ret_ (.slice none 0 0) (by kernel_rfl) ?_
    exact ⟨rfl, HS⟩
  · skip
    refine ql (.bool false) (by kernel_rfl) (R_nbool (p := v < (0 : Int)) (by kernel_rfl) (hc1)) ?_
    refine ql (.bool false) (by kernel_rfl) (by kernel_rfl) ?_
    refine ql (.int .i64 v) (by kernel_rfl) (by kernel_rfl) ?_
    refine ql (.pointer none) (by kernel_rfl) (by kernel_rfl) ?_
    refine qc (f := 17) (args := #[.pointer none]) (by kernel_rfl) (R_call #[.pointer none] Try.func17 (by kernel_rfl) (by kernel_rfl) (by kernel_rfl)) ?_
    refine (nodesnil _).mono ?_
    rintro e W2 ⟨rfl, H_⟩
    refine ⟨_, rfl, ?_⟩
    replace HS : St W (owns []) W2 [] := HS.join (F := []) (G := []) H_
    clear H_
    refine ql (.bool true) (by kernel_rfl) (R_bool (p := v ≥ (0 : Int)) (by kernel_rfl) (by omega)) ?_
    refine ql (.bool true) (by kernel_rfl) (by kernel_rfl) ?_
    refine wpList_nil ?_
    refine x_then ?_
    refine wp_cond_true (by kernel_rfl) ?_
    refine wp_seq ?_
    refine wp_region_lit ?_
    refine ql (.slice none 0 0) (by kernel_rfl) (by kernel_rfl) ?_
    refine wpList_nil ?_
    refine x_then ?_
    refine wp_ret ?_
    refine x_thenR ?_
    refine ret_ (.slice none 0 0) (by kernel_rfl) ?_
    exact ⟨rfl, HS⟩

set_option maxRecDepth 100000 in
set_option maxHeartbeats 1000000 in
theorem reach_no (g N : Nat) (arcs : List (Int × Int)) (W : World) (hG : GAt W g N arcs) (v : Int) (hv : ¬ (0 ≤ v ∧ v < N)) : Calls Try.prog 14 #[.pointer (some ⟨g, 0, none⟩), .int .i64 v] W fun e W' => e = .returned (.slice none 0 0) ∧ St W (owns []) W' [] := by
  have HS : St W (owns []) W [] := St.start W _
  have hG_ := hG
  obtain ⟨A1, c1, A2, c2, A3, c3, A4, c4, A5, c5, os, js, hB, r1, r2, r3, r4, r5, l1, l2, hF, hN, hm, k2, k3, k4, k5⟩ := hG_
  have b1 := bl_len N (keys false arcs)
  have b2 := bl_len N (keys true arcs)
  refine calls_enter ((.pointer (some ⟨g, 0, none⟩)) :: (.int .i64 v) :: undef :: undef :: undef :: undef :: undef :: undef :: undef :: undef :: undef :: undef :: undef :: undef :: undef :: undef :: undef :: undef :: undef :: undef :: undef :: undef :: undef :: undef :: undef :: undef :: undef :: undef :: undef :: undef :: undef :: undef :: undef :: undef :: undef :: undef :: undef :: undef :: undef :: undef :: undef :: undef :: undef :: undef :: undef :: undef :: undef :: undef :: undef :: undef :: undef :: undef :: undef :: undef :: undef :: undef :: undef :: undef :: undef :: undef :: undef :: undef :: undef :: undef :: undef :: undef :: undef :: undef :: undef :: undef :: undef :: undef :: undef :: undef :: undef :: undef :: undef :: undef :: undef :: undef :: undef :: []) Try.func14 rfl (by kernel_rfl) ?_
  refine wp_seq ?_
  refine wp_region_lit ?_
  refine ql (.slice none 0 0) (by kernel_rfl) (by kernel_rfl) ?_
  refine wpList_nil ?_
  refine x_then ?_
  refine wp_seq ?_
  refine wp_seq ?_
  refine wp_region_lit ?_
  refine ql (.int .i64 v) (by kernel_rfl) (by kernel_rfl) ?_
  by_cases hc1 : v < (0 : Int)
  · skip
    refine ql (.bool true) (by kernel_rfl) (R_bool (p := v < (0 : Int)) (by kernel_rfl) (hc1)) ?_
    refine ql (.bool true) (by kernel_rfl) (by kernel_rfl) ?_
    refine qln (by kernel_rfl) ?_
    refine qln (by kernel_rfl) ?_
    refine qln (by kernel_rfl) ?_
    refine qln (by kernel_rfl) ?_
    refine ql (.bool true) (by kernel_rfl) (by kernel_rfl) ?_
    refine wpList_nil ?_
    refine x_then ?_
    refine wp_cond_true (by kernel_rfl) ?_
    refine wp_seq ?_
    refine wp_region_lit ?_
    refine ql (.slice none 0 0) (by kernel_rfl) (by kernel_rfl) ?_
    refine wpList_nil ?_
    refine x_then ?_
    refine wp_ret ?_
    refine x_thenR ?_
    refine ret_ (.slice none 0 0) (by kernel_rfl) ?_
    exact ⟨rfl, HS⟩
  · skip
    refine ql (.bool false) (by kernel_rfl) (R_nbool (p := v < (0 : Int)) (by kernel_rfl) (hc1)) ?_
    refine ql (.bool false) (by kernel_rfl) (by kernel_rfl) ?_
    refine ql (.int .i64 v) (by kernel_rfl) (by kernel_rfl) ?_
    refine ql (.pointer (some ⟨g, 0, none⟩)) (by kernel_rfl) (by kernel_rfl) ?_
    refine qc (f := 17) (args := #[.pointer (some ⟨g, 0, none⟩)]) (by kernel_rfl) (R_call #[.pointer (some ⟨g, 0, none⟩)] Try.func17 (by kernel_rfl) (by kernel_rfl) (by kernel_rfl)) ?_
    refine (nodessome g N arcs _ (hG.below (HS.kept.below owns_nil))).mono ?_
    rintro e W2 ⟨rfl, H_⟩
    refine ⟨_, rfl, ?_⟩
    replace HS : St W (owns []) W2 [] := HS.join (F := []) (G := []) H_
    clear H_
    refine ql (.bool true) (by kernel_rfl) (R_bool (p := v ≥ (N : Int)) (by kernel_rfl) (by omega)) ?_
    refine ql (.bool true) (by kernel_rfl) (by kernel_rfl) ?_
    refine wpList_nil ?_
    refine x_then ?_
    refine wp_cond_true (by kernel_rfl) ?_
    refine wp_seq ?_
    refine wp_region_lit ?_
    refine ql (.slice none 0 0) (by kernel_rfl) (by kernel_rfl) ?_
    refine wpList_nil ?_
    refine x_then ?_
    refine wp_ret ?_
    refine x_thenR ?_
    refine ret_ (.slice none 0 0) (by kernel_rfl) ?_
    exact ⟨rfl, HS⟩

set_option maxRecDepth 100000 in
set_option maxHeartbeats 1000000 in
theorem reach_yes (g N : Nat) (arcs : List (Int × Int)) (W : World) (hG : GAt W g N arcs) (v : Int) (h0 : 0 ≤ v) (h1 : v < N) : Calls Try.prog 14 #[.pointer (some ⟨g, 0, none⟩), .int .i64 v] W fun e W' => ∃ A' c', e = .returned (.slice A' (reach N arcs v).length c') ∧ St W (owns []) W' [row A' (reach N arcs v).length c' (ci .i64 (reach N arcs v)) 3 1] := by
  have HS : St W (owns []) W [] := St.start W _
  have hG_ := hG
  obtain ⟨A1, c1, A2, c2, A3, c3, A4, c4, A5, c5, os, js, hB, r1, r2, r3, r4, r5, l1, l2, hF, hN, hm, k2, k3, k4, k5⟩ := hG_
  have b1 := bl_len N (keys false arcs)
  have b2 := bl_len N (keys true arcs)
  refine calls_enter ((.pointer (some ⟨g, 0, none⟩)) :: (.int .i64 v) :: undef :: undef :: undef :: undef :: undef :: undef :: undef :: undef :: undef :: undef :: undef :: undef :: undef :: undef :: undef :: undef :: undef :: undef :: undef :: undef :: undef :: undef :: undef :: undef :: undef :: undef :: undef :: undef :: undef :: undef :: undef :: undef :: undef :: undef :: undef :: undef :: undef :: undef :: undef :: undef :: undef :: undef :: undef :: undef :: undef :: undef :: undef :: undef :: undef :: undef :: undef :: undef :: undef :: undef :: undef :: undef :: undef :: undef :: undef :: undef :: undef :: undef :: undef :: undef :: undef :: undef :: undef :: undef :: undef :: undef :: undef :: undef :: undef :: undef :: undef :: undef :: undef :: undef :: undef :: []) Try.func14 rfl (by kernel_rfl) ?_
  refine wp_seq ?_
  refine wp_region_lit ?_
  refine ql (.slice none 0 0) (by kernel_rfl) (by kernel_rfl) ?_
  refine wpList_nil ?_
  refine x_then ?_
  refine wp_seq ?_
  refine wp_seq ?_
  refine wp_region_lit ?_
  refine ql (.int .i64 v) (by kernel_rfl) (by kernel_rfl) ?_
  refine ql (.bool false) (by kernel_rfl) (R_nbool (p := v < (0 : Int)) (by kernel_rfl) (by omega)) ?_
  refine ql (.bool false) (by kernel_rfl) (by kernel_rfl) ?_
  refine ql (.int .i64 v) (by kernel_rfl) (by kernel_rfl) ?_
  refine ql (.pointer (some ⟨g, 0, none⟩)) (by kernel_rfl) (by kernel_rfl) ?_
  refine qc (f := 17) (args := #[.pointer (some ⟨g, 0, none⟩)]) (by kernel_rfl) (R_call #[.pointer (some ⟨g, 0, none⟩)] Try.func17 (by kernel_rfl) (by kernel_rfl) (by kernel_rfl)) ?_
  refine (nodessome g N arcs _ (hG.below (HS.kept.below owns_nil))).mono ?_
  rintro e W1 ⟨rfl, H_⟩
  refine ⟨_, rfl, ?_⟩
  replace HS : St W (owns []) W1 [] := HS.join (F := []) (G := []) H_
  clear H_
  refine ql (.bool false) (by kernel_rfl) (R_nbool (p := v ≥ (N : Int)) (by kernel_rfl) (by omega)) ?_
  refine ql (.bool false) (by kernel_rfl) (by kernel_rfl) ?_
  refine wpList_nil ?_
  refine x_then ?_
  refine wp_cond_false (by kernel_rfl) ?_
  refine wp_skip ?_
  refine x_then ?_
  refine wp_seq ?_
  refine wp_region_lit ?_
  refine ql (.pointer (some ⟨g, 0, none⟩)) (by kernel_rfl) (by kernel_rfl) ?_
  refine ql (.pointer (some ⟨g, 0, none⟩)) (by kernel_rfl) (by kernel_rfl) ?_
  refine ql (.pointer (some ⟨g, 0, none⟩)) (by kernel_rfl) (by kernel_rfl) ?_
  refine ql (.int .i64 (N : Int)) (by kernel_rfl) (R_load (p := ⟨g, 0, none⟩) (by kernel_rfl) (by kernel_rfl) (by kernel_rfl) (HS.old0 (cell_at (j := 0) hB rfl))) ?_
  refine km HS (N) [.int .i64 0] 8 (by kernel_rfl) (k_eq (k := .i64) (m := (N : Int)) (by kernel_rfl) (by omega)) (k_eq (k := .i64) (m := (N : Int)) (by kernel_rfl) (by omega)) Try.underlying28 (by kernel_rfl) (by kernel_rfl) (by kernel_rfl) (by decide) (by omega) (by omega) ?_
  intro g2 W3 H_
  replace HS : St W (owns []) W3 [row (some ⟨g2, 0, none⟩) N N (ci .i64 (List.replicate (N) 0)) 3 1] := H_.cast_ (by rw [ci_rep]; rfl)
  clear H_
  have rlg2 : (List.replicate (N) (0 : Int)).length = N := List.length_replicate
  refine ql (.slice (some ⟨g2, 0, none⟩) N N) (by kernel_rfl) (by kernel_rfl) ?_
  refine wpList_nil ?_
  refine x_then ?_
  refine wp_seq ?_
  refine wp_region_lit ?_
  refine ql (.slice (some ⟨g2, 0, none⟩) N N) (by kernel_rfl) (by kernel_rfl) ?_
  refine ql (.int .i64 v) (by kernel_rfl) (by kernel_rfl) ?_
  refine ql (.pointer (some ⟨g2, v.toNat, none⟩)) (by kernel_rfl) (R_index1 (k := .i64) (g := g2) (n := N) (c := N) (i := v) (by kernel_rfl) (by kernel_rfl) Try.underlying28 (by kernel_rfl) (by omega) (by omega)) ?_
  refine kr (v := .int .i64 1) HS 0 rfl (v.toNat) [.int .i64 1] (by kernel_rfl) (by kernel_rfl) (by kernel_rfl) (by kernel_rfl) (by kernel_rfl) (one_ (by kernel_rfl)) (by rw [ci_len]; first | omega | (simp only [List.length_singleton]; omega)) rfl ?_
  intro W4 H_
  obtain ⟨xs5, xs5_⟩ : ∃ z_ : List Int, z_ = (List.replicate (N) 0).set v.toNat 1 := ⟨_, rfl⟩
  replace HS : St W (owns []) W4 [row (some ⟨g2, 0, none⟩) N N (ci .i64 xs5) 3 1] := H_.cast_ (by rw [xs5_, ← ci_set]; rfl)
  clear H_
  have xs5l : xs5.length = N := by rw [xs5_, List.length_set]; first | done | omega
  refine wpList_nil ?_
  refine x_then ?_
  refine wp_seq ?_
  refine wp_seq ?_
  refine wp_region_lit ?_
  refine ql (.int .i64 v) (by kernel_rfl) (by kernel_rfl) ?_
  refine kl HS 1 [.int .i64 v] 3 1 (by kernel_rfl) (by kernel_rfl) rfl (by decide) ?_
  intro g6 W7 H_
  replace HS : St W (owns []) W7 [row (some ⟨g6, 0, none⟩) 1 1 (ci .i64 ([v])) 3 1, row (some ⟨g2, 0, none⟩) N N (ci .i64 xs5) 3 1] := H_.cast_ (by kernel_rfl)
  clear H_
  refine ql (.slice (some ⟨g6, 0, none⟩) 1 1) (by kernel_rfl) (by kernel_rfl) ?_
  refine wpList_nil ?_
  refine x_then ?_
  refine wp_block ?_
  have hz0 := zs_le xs5
  have hri := rinv_start (arcs := arcs) h0 h1 (bs := xs5) xs5_
  refine wp_loop_ghost (fun kq a' w' => ∃ (J8 : Nat → Value) (Aw : Option Addr) (cw : Nat) (ws : List Int) (bs : List Int) , a' = Fr ((.pointer (some ⟨g, 0, none⟩)) :: (.int .i64 v) :: undef :: undef :: (.slice none 0 0) :: (.slice (some ⟨g2, 0, none⟩) N N) :: (.slice Aw ws.length cw) :: ((J8 7)) :: undef :: ((J8 9)) :: undef :: undef :: undef :: (.int .i64 v) :: (.bool false) :: (.bool false) :: (.int .i64 v) :: (.pointer (some ⟨g, 0, none⟩)) :: (.int .i64 (N : Int)) :: (.bool false) :: (.bool false) :: (.pointer (some ⟨g, 0, none⟩)) :: (.pointer (some ⟨g, 0, none⟩)) :: (.pointer (some ⟨g, 0, none⟩)) :: (.int .i64 (N : Int)) :: (.slice (some ⟨g2, 0, none⟩) N N) :: (.slice (some ⟨g2, 0, none⟩) N N) :: (.int .i64 v) :: (.pointer (some ⟨g2, v.toNat, none⟩)) :: (.int .i64 v) :: (.slice (some ⟨g6, 0, none⟩) 1 1) :: ((J8 31)) :: ((J8 32)) :: ((J8 33)) :: ((J8 34)) :: ((J8 35)) :: ((J8 36)) :: ((J8 37)) :: ((J8 38)) :: ((J8 39)) :: ((J8 40)) :: ((J8 41)) :: ((J8 42)) :: ((J8 43)) :: ((J8 44)) :: ((J8 45)) :: ((J8 46)) :: ((J8 47)) :: ((J8 48)) :: ((J8 49)) :: ((J8 50)) :: ((J8 51)) :: ((J8 52)) :: ((J8 53)) :: ((J8 54)) :: ((J8 55)) :: ((J8 56)) :: ((J8 57)) :: ((J8 58)) :: ((J8 59)) :: ((J8 60)) :: ((J8 61)) :: ((J8 62)) :: ((J8 63)) :: ((J8 64)) :: ((J8 65)) :: undef :: undef :: undef :: undef :: undef :: undef :: undef :: undef :: undef :: undef :: undef :: undef :: undef :: undef :: undef :: []) ∧ kq = (ws.length + zs bs) ∧ (RInv N arcs v bs ws) ∧ (ws.length + zs bs ≤ N + 1) ∧ St W (owns []) w' [row Aw ws.length cw (ci .i64 ws) 3 1, row (some ⟨g2, 0, none⟩) N N (ci .i64 bs) 3 1]) ([v].length + zs xs5) ⟨(fun k_ : Nat => List.getD ((.pointer (some ⟨g, 0, none⟩)) :: (.int .i64 v) :: undef :: undef :: (.slice none 0 0) :: (.slice (some ⟨g2, 0, none⟩) N N) :: (.slice (some ⟨g6, 0, none⟩) 1 1) :: undef :: undef :: undef :: undef :: undef :: undef :: (.int .i64 v) :: (.bool false) :: (.bool false) :: (.int .i64 v) :: (.pointer (some ⟨g, 0, none⟩)) :: (.int .i64 (N : Int)) :: (.bool false) :: (.bool false) :: (.pointer (some ⟨g, 0, none⟩)) :: (.pointer (some ⟨g, 0, none⟩)) :: (.pointer (some ⟨g, 0, none⟩)) :: (.int .i64 (N : Int)) :: (.slice (some ⟨g2, 0, none⟩) N N) :: (.slice (some ⟨g2, 0, none⟩) N N) :: (.int .i64 v) :: (.pointer (some ⟨g2, v.toNat, none⟩)) :: (.int .i64 v) :: (.slice (some ⟨g6, 0, none⟩) 1 1) :: undef :: undef :: undef :: undef :: undef :: undef :: undef :: undef :: undef :: undef :: undef :: undef :: undef :: undef :: undef :: undef :: undef :: undef :: undef :: undef :: undef :: undef :: undef :: undef :: undef :: undef :: undef :: undef :: undef :: undef :: undef :: undef :: undef :: undef :: undef :: undef :: undef :: undef :: undef :: undef :: undef :: undef :: undef :: undef :: undef :: undef :: undef :: undef :: undef :: undef :: []) k_ undef), some ⟨g6, 0, none⟩, 1, [v], xs5, congrArg Fr (by kernel_rfl), rfl, hri, by simp only [List.length_cons, List.length_nil]; omega, HS⟩ ?_
  clear HS
  intro kq9 a' W10 hrel
  obtain ⟨J8, Aw, cw, ws, bs, rfl, hk, hI, hm0, HS⟩ := hrel
  have hbl := hI.1.len
  have hzl := zs_le bs
  refine wp_seq ?_
  refine wp_seq ?_
  refine wp_region_lit ?_
  refine ql (.slice Aw ws.length cw) (by kernel_rfl) (by kernel_rfl) ?_
  refine ql (.int .i64 (ws.length : Int)) (by kernel_rfl) (by kernel_rfl) ?_
  by_cases hc11 : (ws.length : Int) > (0 : Int)
  · skip
    refine ql (.bool true) (by kernel_rfl) (R_bool (p := (ws.length : Int) > (0 : Int)) (by kernel_rfl) (hc11)) ?_
    refine wpList_nil ?_
    refine x_then ?_
    refine wp_cond_true (by kernel_rfl) ?_
    refine wp_skip ?_
    refine x_then ?_
    refine wp_block ?_
    refine wp_seq ?_
    refine wp_region_lit ?_
    refine ql (.slice Aw ws.length cw) (by kernel_rfl) (by kernel_rfl) ?_
    refine ql (.slice Aw ws.length cw) (by kernel_rfl) (by kernel_rfl) ?_
    refine ql (.int .i64 (ws.length : Int)) (by kernel_rfl) (by kernel_rfl) ?_
    refine ql (.int .i64 ((ws.length : Int) - 1)) (by kernel_rfl) (R_int (by kernel_rfl) (w64 (by omega))) ?_
    obtain ⟨g12, rfl⟩ := St.rsome HS (i := 0) rfl (by omega)
    refine ql (.pointer (some ⟨g12, ((ws.length : Int) - 1).toNat, none⟩)) (by kernel_rfl) (R_index1 (k := .i64) (g := g12) (n := ws.length) (c := cw) (i := (ws.length : Int) - 1) (by kernel_rfl) (by kernel_rfl) Try.underlying28 (by kernel_rfl) (by omega) (by omega)) ?_
    refine ql (.int .i64 (rdI ws ((ws.length : Int) - 1))) (by kernel_rfl) (R_load (p := ⟨g12, ((ws.length : Int) - 1).toNat, none⟩) (by kernel_rfl) (by kernel_rfl) (by kernel_rfl) (HS.rcell (i := 0) rfl (ci_rd (by omega) (by omega)))) ?_
    refine ql (.int .i64 (rdI ws ((ws.length : Int) - 1))) (by kernel_rfl) (by kernel_rfl) ?_
    refine wpList_nil ?_
    refine x_then ?_
    refine wp_seq ?_
    refine wp_region_lit ?_
    refine ql (.slice (some ⟨g12, 0, none⟩) ws.length cw) (by kernel_rfl) (by kernel_rfl) ?_
    refine ql (.slice (some ⟨g12, 0, none⟩) ws.length cw) (by kernel_rfl) (by kernel_rfl) ?_
    refine ql (.int .i64 (ws.length : Int)) (by kernel_rfl) (by kernel_rfl) ?_
    refine ql (.int .i64 ((ws.length : Int) - 1)) (by kernel_rfl) (R_int (by kernel_rfl) (w64 (by omega))) ?_
    obtain ⟨xs13, xs13_⟩ : ∃ z_ : List Int, z_ = (ws).take (ws.length - 1) := ⟨_, rfl⟩
    have xs13l : xs13.length = ws.length - 1 := by rw [xs13_, List.length_take]; omega
    replace HS : St W (owns []) W10 [row (some ⟨g12, 0, none⟩) xs13.length cw (ci .i64 xs13) 3 1, row (some ⟨g2, 0, none⟩) N N (ci .i64 bs) 3 1] := HS.cutRow (i := 0) rfl xs13.length _ (by omega) (by rw [xs13l, ci_take, xs13_])
    refine ql (.slice (some ⟨g12, 0, none⟩) xs13.length cw) (by kernel_rfl) (R_eq (R_sliceH (z := 1) (k := .i64) (A := some ⟨g12, 0, none⟩) (n := ws.length) (c := cw) (i := (ws.length : Int) - 1) (by kernel_rfl) (by kernel_rfl) Try.underlying28 (by kernel_rfl) (by omega) (by have := (St.rcap HS (i := 0) rfl).1; omega)) (by rw [show ((ws.length : Int) - 1).toNat = xs13.length by omega])) ?_
    refine ql (.slice (some ⟨g12, 0, none⟩) xs13.length cw) (by kernel_rfl) (by kernel_rfl) ?_
    refine wpList_nil ?_
    refine x_then ?_
    refine wp_seq ?_
    refine wp_region_lit ?_
    refine ql (.pointer (some ⟨g, 0, none⟩)) (by kernel_rfl) (by kernel_rfl) ?_
    refine ql (.int .i64 (rdI ws ((ws.length : Int) - 1))) (by kernel_rfl) (by kernel_rfl) ?_
    refine qc (f := 15) (args := #[.pointer (some ⟨g, 0, none⟩), .int .i64 (rdI ws ((ws.length : Int) - 1))]) (by kernel_rfl) (R_call #[.pointer (some ⟨g, 0, none⟩), .int .i64 (rdI ws ((ws.length : Int) - 1))] Try.func15 (by kernel_rfl) (by kernel_rfl) (by kernel_rfl)) ?_
    have htm := hI.1.work (rdI ws ((ws.length : Int) - 1)) (List.mem_of_getElem? (rdI_eq (xs := ws) (by omega) (by omega)))
    refine (next_yes g N arcs _ (hG.below (HS.kept.below owns_nil)) (rdI ws ((ws.length : Int) - 1)) htm.1 htm.2.1).mono ?_
    rintro e W14 ⟨A9, c9, rfl, H_⟩
    refine ⟨_, rfl, ?_⟩
    replace HS : St W (owns []) W14 [row A9 ((nexts arcs (rdI ws ((ws.length : Int) - 1))).length) c9 (ci .i64 (nexts arcs (rdI ws ((ws.length : Int) - 1)))) 3 1, row (some ⟨g12, 0, none⟩) xs13.length cw (ci .i64 xs13) 3 1, row (some ⟨g2, 0, none⟩) N N (ci .i64 bs) 3 1] := HS.join (F := []) (G := [row A9 ((nexts arcs (rdI ws ((ws.length : Int) - 1))).length) c9 (ci .i64 (nexts arcs (rdI ws ((ws.length : Int) - 1)))) 3 1]) H_
    clear H_
    refine ql (.int .i64 ((nexts arcs (rdI ws ((ws.length : Int) - 1))).length : Int)) (by kernel_rfl) (by kernel_rfl) ?_
    refine ql (.int .i64 0) (by kernel_rfl) (by kernel_rfl) ?_
    refine wpList_nil ?_
    refine x_then ?_
    refine wp_block ?_
    have hrs := rin_start hI (by omega) rfl xs13_
    refine wp_loop_ghost (fun kq a' w' => ∃ (J15 : Nat → Value) (q : Int) (Aw2 : Option Addr) (cw2 : Nat) (ws2 : List Int) (bs2 : List Int) , a' = Fr ((.pointer (some ⟨g, 0, none⟩)) :: (.int .i64 v) :: undef :: undef :: (.slice none 0 0) :: (.slice (some ⟨g2, 0, none⟩) N N) :: (.slice Aw2 ws2.length cw2) :: (.int .i64 (rdI ws ((ws.length : Int) - 1))) :: undef :: ((J15 9)) :: undef :: undef :: undef :: (.int .i64 v) :: (.bool false) :: (.bool false) :: (.int .i64 v) :: (.pointer (some ⟨g, 0, none⟩)) :: (.int .i64 (N : Int)) :: (.bool false) :: (.bool false) :: (.pointer (some ⟨g, 0, none⟩)) :: (.pointer (some ⟨g, 0, none⟩)) :: (.pointer (some ⟨g, 0, none⟩)) :: (.int .i64 (N : Int)) :: (.slice (some ⟨g2, 0, none⟩) N N) :: (.slice (some ⟨g2, 0, none⟩) N N) :: (.int .i64 v) :: (.pointer (some ⟨g2, v.toNat, none⟩)) :: (.int .i64 v) :: (.slice (some ⟨g6, 0, none⟩) 1 1) :: (.slice (some ⟨g12, 0, none⟩) ws.length cw) :: (.int .i64 (ws.length : Int)) :: (.bool true) :: (.slice (some ⟨g12, 0, none⟩) ws.length cw) :: (.slice (some ⟨g12, 0, none⟩) ws.length cw) :: (.int .i64 (ws.length : Int)) :: (.int .i64 ((ws.length : Int) - 1)) :: (.pointer (some ⟨g12, ((ws.length : Int) - 1).toNat, none⟩)) :: (.int .i64 (rdI ws ((ws.length : Int) - 1))) :: (.slice (some ⟨g12, 0, none⟩) ws.length cw) :: (.slice (some ⟨g12, 0, none⟩) ws.length cw) :: (.int .i64 (ws.length : Int)) :: (.int .i64 ((ws.length : Int) - 1)) :: (.slice (some ⟨g12, 0, none⟩) xs13.length cw) :: (.pointer (some ⟨g, 0, none⟩)) :: (.int .i64 (rdI ws ((ws.length : Int) - 1))) :: (.slice A9 ((nexts arcs (rdI ws ((ws.length : Int) - 1))).length) c9) :: (.int .i64 ((nexts arcs (rdI ws ((ws.length : Int) - 1))).length : Int)) :: (.int .i64 q) :: ((J15 50)) :: ((J15 51)) :: ((J15 52)) :: ((J15 53)) :: ((J15 54)) :: ((J15 55)) :: ((J15 56)) :: ((J15 57)) :: ((J15 58)) :: ((J15 59)) :: ((J15 60)) :: ((J15 61)) :: ((J15 62)) :: ((J15 63)) :: ((J15 64)) :: ((J15 65)) :: undef :: undef :: undef :: undef :: undef :: undef :: undef :: undef :: undef :: undef :: undef :: undef :: undef :: undef :: undef :: []) ∧ kq = ((nexts arcs (rdI ws ((ws.length : Int) - 1))).length - (q).toNat) ∧ (0 ≤ q) ∧ (q ≤ (nexts arcs (rdI ws ((ws.length : Int) - 1))).length) ∧ (RIn N arcs v (rdI ws ((ws.length : Int) - 1)) (q).toNat bs2 ws2) ∧ (ws2.length + zs bs2 = ws.length - 1 + zs bs) ∧ St W (owns []) w' [row A9 ((nexts arcs (rdI ws ((ws.length : Int) - 1))).length) c9 (ci .i64 (nexts arcs (rdI ws ((ws.length : Int) - 1)))) 3 1, row Aw2 ws2.length cw2 (ci .i64 ws2) 3 1, row (some ⟨g2, 0, none⟩) N N (ci .i64 bs2) 3 1]) ((nexts arcs (rdI ws ((ws.length : Int) - 1))).length - ((0 : Int)).toNat) ⟨(fun k_ : Nat => List.getD ((.pointer (some ⟨g, 0, none⟩)) :: (.int .i64 v) :: undef :: undef :: (.slice none 0 0) :: (.slice (some ⟨g2, 0, none⟩) N N) :: (.slice (some ⟨g12, 0, none⟩) xs13.length cw) :: (.int .i64 (rdI ws ((ws.length : Int) - 1))) :: undef :: ((J8 9)) :: undef :: undef :: undef :: (.int .i64 v) :: (.bool false) :: (.bool false) :: (.int .i64 v) :: (.pointer (some ⟨g, 0, none⟩)) :: (.int .i64 (N : Int)) :: (.bool false) :: (.bool false) :: (.pointer (some ⟨g, 0, none⟩)) :: (.pointer (some ⟨g, 0, none⟩)) :: (.pointer (some ⟨g, 0, none⟩)) :: (.int .i64 (N : Int)) :: (.slice (some ⟨g2, 0, none⟩) N N) :: (.slice (some ⟨g2, 0, none⟩) N N) :: (.int .i64 v) :: (.pointer (some ⟨g2, v.toNat, none⟩)) :: (.int .i64 v) :: (.slice (some ⟨g6, 0, none⟩) 1 1) :: (.slice (some ⟨g12, 0, none⟩) ws.length cw) :: (.int .i64 (ws.length : Int)) :: (.bool true) :: (.slice (some ⟨g12, 0, none⟩) ws.length cw) :: (.slice (some ⟨g12, 0, none⟩) ws.length cw) :: (.int .i64 (ws.length : Int)) :: (.int .i64 ((ws.length : Int) - 1)) :: (.pointer (some ⟨g12, ((ws.length : Int) - 1).toNat, none⟩)) :: (.int .i64 (rdI ws ((ws.length : Int) - 1))) :: (.slice (some ⟨g12, 0, none⟩) ws.length cw) :: (.slice (some ⟨g12, 0, none⟩) ws.length cw) :: (.int .i64 (ws.length : Int)) :: (.int .i64 ((ws.length : Int) - 1)) :: (.slice (some ⟨g12, 0, none⟩) xs13.length cw) :: (.pointer (some ⟨g, 0, none⟩)) :: (.int .i64 (rdI ws ((ws.length : Int) - 1))) :: (.slice A9 ((nexts arcs (rdI ws ((ws.length : Int) - 1))).length) c9) :: (.int .i64 ((nexts arcs (rdI ws ((ws.length : Int) - 1))).length : Int)) :: (.int .i64 0) :: ((J8 50)) :: ((J8 51)) :: ((J8 52)) :: ((J8 53)) :: ((J8 54)) :: ((J8 55)) :: ((J8 56)) :: ((J8 57)) :: ((J8 58)) :: ((J8 59)) :: ((J8 60)) :: ((J8 61)) :: ((J8 62)) :: ((J8 63)) :: ((J8 64)) :: ((J8 65)) :: undef :: undef :: undef :: undef :: undef :: undef :: undef :: undef :: undef :: undef :: undef :: undef :: undef :: undef :: undef :: []) k_ undef), (0 : Int), some ⟨g12, 0, none⟩, cw, xs13, bs, congrArg Fr (by kernel_rfl), rfl, by omega, by omega, hrs, by omega, HS⟩ ?_
    clear HS
    intro kq16 a' W17 hrel
    obtain ⟨J15, q, Aw2, cw2, ws2, bs2, rfl, hk, q0, q1, hJ, hz, HS⟩ := hrel
    have hbl2 := hJ.1.len
    have hzl2 := zs_le bs2
    have hnl := idxs_le false arcs (rdI ws ((ws.length : Int) - 1))
    rw [← nexts_len] at hnl
    refine wp_seq ?_
    refine wp_region_lit ?_
    by_cases hc18 : q < ((nexts arcs (rdI ws ((ws.length : Int) - 1))).length : Int)
    · skip
      refine ql (.bool true) (by kernel_rfl) (R_bool (p := q < ((nexts arcs (rdI ws ((ws.length : Int) - 1))).length : Int)) (by kernel_rfl) (hc18)) ?_
      refine wpList_nil ?_
      refine x_then ?_
      refine wp_seq ?_
      refine wp_cond_true (by kernel_rfl) ?_
      refine wp_skip ?_
      refine x_then ?_
      refine wp_seq ?_
      refine wp_block ?_
      refine wp_seq ?_
      have hqx := rdI_eq (xs := nexts arcs (rdI ws ((ws.length : Int) - 1))) q0 (by omega)
      have hw : 0 ≤ rdI (nexts arcs (rdI ws ((ws.length : Int) - 1))) q ∧ rdI (nexts arcs (rdI ws ((ws.length : Int) - 1))) q < N := by have := hF _ (mem_nexts.1 (List.mem_of_getElem? hqx)); omega
      have hbit := hJ.1.bit _ hw.1 hw.2
      refine wp_region_lit ?_
      obtain ⟨g19, rfl⟩ := St.rsome HS (i := 0) rfl (by omega)
      refine ql (.pointer (some ⟨g19, q.toNat, none⟩)) (by kernel_rfl) (R_index1 (k := .i64) (g := g19) (n := ((nexts arcs (rdI ws ((ws.length : Int) - 1))).length)) (c := c9) (i := q) (by kernel_rfl) (by kernel_rfl) Try.underlying28 (by kernel_rfl) (by omega) (by omega)) ?_
      refine ql (.int .i64 (rdI (nexts arcs (rdI ws ((ws.length : Int) - 1))) q)) (by kernel_rfl) (R_load (p := ⟨g19, q.toNat, none⟩) (by kernel_rfl) (by kernel_rfl) (by kernel_rfl) (HS.rcell (i := 0) rfl (ci_rd (by omega) (by omega)))) ?_
      refine ql (.int .i64 (rdI (nexts arcs (rdI ws ((ws.length : Int) - 1))) q)) (by kernel_rfl) (by kernel_rfl) ?_
      refine wpList_nil ?_
      refine x_then ?_
      refine wp_seq ?_
      refine wp_region_lit ?_
      refine ql (.slice (some ⟨g2, 0, none⟩) N N) (by kernel_rfl) (by kernel_rfl) ?_
      refine ql (.int .i64 (rdI (nexts arcs (rdI ws ((ws.length : Int) - 1))) q)) (by kernel_rfl) (by kernel_rfl) ?_
      refine ql (.pointer (some ⟨g2, (rdI (nexts arcs (rdI ws ((ws.length : Int) - 1))) q).toNat, none⟩)) (by kernel_rfl) (R_index1 (k := .i64) (g := g2) (n := N) (c := N) (i := rdI (nexts arcs (rdI ws ((ws.length : Int) - 1))) q) (by kernel_rfl) (by kernel_rfl) Try.underlying28 (by kernel_rfl) (by omega) (by omega)) ?_
      refine ql (.int .i64 (rdI bs2 (rdI (nexts arcs (rdI ws ((ws.length : Int) - 1))) q))) (by kernel_rfl) (R_load (p := ⟨g2, (rdI (nexts arcs (rdI ws ((ws.length : Int) - 1))) q).toNat, none⟩) (by kernel_rfl) (by kernel_rfl) (by kernel_rfl) (HS.rcell (i := 2) rfl (ci_rd (by omega) (by omega)))) ?_
      by_cases hc20 : (rdI bs2 (rdI (nexts arcs (rdI ws ((ws.length : Int) - 1))) q)) = (0 : Int)
      · skip
        refine ql (.bool true) (by kernel_rfl) (R_beq (b := (rdI bs2 (rdI (nexts arcs (rdI ws ((ws.length : Int) - 1))) q) == (0 : Int))) (by kernel_rfl) (beq_t (hc20))) ?_
        refine wpList_nil ?_
        refine x_then ?_
        refine wp_cond_true (by kernel_rfl) ?_
        refine wp_seq ?_
        refine wp_region_lit ?_
        refine ql (.slice (some ⟨g2, 0, none⟩) N N) (by kernel_rfl) (by kernel_rfl) ?_
        refine ql (.int .i64 (rdI (nexts arcs (rdI ws ((ws.length : Int) - 1))) q)) (by kernel_rfl) (by kernel_rfl) ?_
        refine ql (.pointer (some ⟨g2, (rdI (nexts arcs (rdI ws ((ws.length : Int) - 1))) q).toNat, none⟩)) (by kernel_rfl) (R_index1 (k := .i64) (g := g2) (n := N) (c := N) (i := rdI (nexts arcs (rdI ws ((ws.length : Int) - 1))) q) (by kernel_rfl) (by kernel_rfl) Try.underlying28 (by kernel_rfl) (by omega) (by omega)) ?_
        refine kr (v := .int .i64 1) HS 2 rfl ((rdI (nexts arcs (rdI ws ((ws.length : Int) - 1))) q).toNat) [.int .i64 1] (by kernel_rfl) (by kernel_rfl) (by kernel_rfl) (by kernel_rfl) (by kernel_rfl) (one_ (by kernel_rfl)) (by rw [ci_len]; first | omega | (simp only [List.length_singleton]; omega)) rfl ?_
        intro W21 H_
        obtain ⟨xs22, xs22_⟩ : ∃ z_ : List Int, z_ = (bs2).set (rdI (nexts arcs (rdI ws ((ws.length : Int) - 1))) q).toNat 1 := ⟨_, rfl⟩
        replace HS : St W (owns []) W21 [row (some ⟨g19, 0, none⟩) ((nexts arcs (rdI ws ((ws.length : Int) - 1))).length) c9 (ci .i64 (nexts arcs (rdI ws ((ws.length : Int) - 1)))) 3 1, row Aw2 ws2.length cw2 (ci .i64 ws2) 3 1, row (some ⟨g2, 0, none⟩) N N (ci .i64 xs22) 3 1] := H_.cast_ (by rw [xs22_, ← ci_set]; rfl)
        clear H_
        have xs22l : xs22.length = N := by rw [xs22_, List.length_set]; first | done | omega
        refine wpList_nil ?_
        refine x_then ?_
        refine wp_region_lit ?_
        refine ql (.slice Aw2 ws2.length cw2) (by kernel_rfl) (by kernel_rfl) ?_
        refine ql (.int .i64 (rdI (nexts arcs (rdI ws ((ws.length : Int) - 1))) q)) (by kernel_rfl) (by kernel_rfl) ?_
        refine kl HS 1 [.int .i64 (rdI (nexts arcs (rdI ws ((ws.length : Int) - 1))) q)] 3 1 (by kernel_rfl) (by kernel_rfl) rfl (by decide) ?_
        intro g23 W24 H_
        replace HS : St W (owns []) W24 [row (some ⟨g23, 0, none⟩) 1 1 (ci .i64 ([rdI (nexts arcs (rdI ws ((ws.length : Int) - 1))) q])) 3 1, row (some ⟨g19, 0, none⟩) ((nexts arcs (rdI ws ((ws.length : Int) - 1))).length) c9 (ci .i64 (nexts arcs (rdI ws ((ws.length : Int) - 1)))) 3 1, row Aw2 ws2.length cw2 (ci .i64 ws2) 3 1, row (some ⟨g2, 0, none⟩) N N (ci .i64 xs22) 3 1] := H_.cast_ (by kernel_rfl)
        clear H_
        obtain ⟨xs28, xs28_⟩ : ∃ z_ : List Int, z_ = ws2 ++ ([rdI (nexts arcs (rdI ws ((ws.length : Int) - 1))) q]) := ⟨_, rfl⟩
        have xs28l : xs28.length = ws2.length + 1 := by rw [xs28_, List.length_append] <;> (try simp only [List.length_cons, List.length_nil]) <;> omega
        refine ka1 HS 2 rfl (Src.of_row HS (i := 0) rfl ci_one) [.int .i64 0] 8 xs28.length (ci .i64 xs28) (by omega) (by rw [xs28_, ci_app]) (by kernel_rfl) (by kernel_rfl) (by kernel_rfl) Try.underlying28 (by kernel_rfl) (by kernel_rfl) (by kernel_rfl) (by kernel_rfl) (by decide) (by omega) (by omega) ?_
        intro A25 c26 W27 H_
        replace HS : St W (owns []) W27 [row (some ⟨g23, 0, none⟩) 1 1 (ci .i64 ([rdI (nexts arcs (rdI ws ((ws.length : Int) - 1))) q])) 3 1, row (some ⟨g19, 0, none⟩) ((nexts arcs (rdI ws ((ws.length : Int) - 1))).length) c9 (ci .i64 (nexts arcs (rdI ws ((ws.length : Int) - 1)))) 3 1, row A25 xs28.length c26 (ci .i64 xs28) 3 1, row (some ⟨g2, 0, none⟩) N N (ci .i64 xs22) 3 1] := H_
        clear H_
        refine ql (.slice A25 xs28.length c26) (by kernel_rfl) (by kernel_rfl) ?_
        refine wpList_nil ?_
        refine x_inb ?_
        refine x_then ?_
        refine wp_region_lit ?_
        refine ql (.int .i64 (q + 1)) (by kernel_rfl) (R_int (by kernel_rfl) (w64 (by omega))) ?_
        refine ql (.int .i64 (q + 1)) (by kernel_rfl) (by kernel_rfl) ?_
        refine wpList_nil ?_
        replace HS := HS.drop1
        have hrn := rin_new hJ hqx hw.1 hw.2 xs22_ xs28_
        have hzz := zs_set (bs := bs2) hw.1 (by omega) (by omega)
        rw [← xs22_] at hzz
        rw [show q.toNat + 1 = (q + 1).toNat by omega] at hrn
        refine x_then ?_
        exact ⟨(nexts arcs (rdI ws ((ws.length : Int) - 1))).length - (q + 1).toNat, by omega, (fun k_ : Nat => List.getD ((.pointer (some ⟨g, 0, none⟩)) :: (.int .i64 v) :: undef :: undef :: (.slice none 0 0) :: (.slice (some ⟨g2, 0, none⟩) N N) :: (.slice A25 xs28.length c26) :: (.int .i64 (rdI ws ((ws.length : Int) - 1))) :: undef :: (.int .i64 (rdI (nexts arcs (rdI ws ((ws.length : Int) - 1))) q)) :: undef :: undef :: undef :: (.int .i64 v) :: (.bool false) :: (.bool false) :: (.int .i64 v) :: (.pointer (some ⟨g, 0, none⟩)) :: (.int .i64 (N : Int)) :: (.bool false) :: (.bool false) :: (.pointer (some ⟨g, 0, none⟩)) :: (.pointer (some ⟨g, 0, none⟩)) :: (.pointer (some ⟨g, 0, none⟩)) :: (.int .i64 (N : Int)) :: (.slice (some ⟨g2, 0, none⟩) N N) :: (.slice (some ⟨g2, 0, none⟩) N N) :: (.int .i64 v) :: (.pointer (some ⟨g2, v.toNat, none⟩)) :: (.int .i64 v) :: (.slice (some ⟨g6, 0, none⟩) 1 1) :: (.slice (some ⟨g12, 0, none⟩) ws.length cw) :: (.int .i64 (ws.length : Int)) :: (.bool true) :: (.slice (some ⟨g12, 0, none⟩) ws.length cw) :: (.slice (some ⟨g12, 0, none⟩) ws.length cw) :: (.int .i64 (ws.length : Int)) :: (.int .i64 ((ws.length : Int) - 1)) :: (.pointer (some ⟨g12, ((ws.length : Int) - 1).toNat, none⟩)) :: (.int .i64 (rdI ws ((ws.length : Int) - 1))) :: (.slice (some ⟨g12, 0, none⟩) ws.length cw) :: (.slice (some ⟨g12, 0, none⟩) ws.length cw) :: (.int .i64 (ws.length : Int)) :: (.int .i64 ((ws.length : Int) - 1)) :: (.slice (some ⟨g12, 0, none⟩) xs13.length cw) :: (.pointer (some ⟨g, 0, none⟩)) :: (.int .i64 (rdI ws ((ws.length : Int) - 1))) :: (.slice (some ⟨g19, 0, none⟩) ((nexts arcs (rdI ws ((ws.length : Int) - 1))).length) c9) :: (.int .i64 ((nexts arcs (rdI ws ((ws.length : Int) - 1))).length : Int)) :: (.int .i64 (q + 1)) :: (.bool true) :: (.pointer (some ⟨g19, q.toNat, none⟩)) :: (.int .i64 (rdI (nexts arcs (rdI ws ((ws.length : Int) - 1))) q)) :: (.slice (some ⟨g2, 0, none⟩) N N) :: (.int .i64 (rdI (nexts arcs (rdI ws ((ws.length : Int) - 1))) q)) :: (.pointer (some ⟨g2, (rdI (nexts arcs (rdI ws ((ws.length : Int) - 1))) q).toNat, none⟩)) :: (.int .i64 (rdI bs2 (rdI (nexts arcs (rdI ws ((ws.length : Int) - 1))) q))) :: (.bool true) :: (.slice (some ⟨g2, 0, none⟩) N N) :: (.int .i64 (rdI (nexts arcs (rdI ws ((ws.length : Int) - 1))) q)) :: (.pointer (some ⟨g2, (rdI (nexts arcs (rdI ws ((ws.length : Int) - 1))) q).toNat, none⟩)) :: (.slice Aw2 ws2.length cw2) :: (.int .i64 (rdI (nexts arcs (rdI ws ((ws.length : Int) - 1))) q)) :: (.slice (some ⟨g23, 0, none⟩) 1 1) :: (.slice A25 xs28.length c26) :: (.int .i64 (q + 1)) :: undef :: undef :: undef :: undef :: undef :: undef :: undef :: undef :: undef :: undef :: undef :: undef :: undef :: undef :: undef :: []) k_ undef), q + 1, A25, c26, xs28, xs22, congrArg Fr (by kernel_rfl), rfl, by omega, by omega, hrn, by omega, HS⟩
      · skip
        refine ql (.bool false) (by kernel_rfl) (R_beq (b := (rdI bs2 (rdI (nexts arcs (rdI ws ((ws.length : Int) - 1))) q) == (0 : Int))) (by kernel_rfl) (beq_f (hc20))) ?_
        refine wpList_nil ?_
        refine x_then ?_
        refine wp_cond_false (by kernel_rfl) ?_
        refine wp_skip ?_
        refine x_inb ?_
        refine x_then ?_
        refine wp_region_lit ?_
        refine ql (.int .i64 (q + 1)) (by kernel_rfl) (R_int (by kernel_rfl) (w64 (by omega))) ?_
        refine ql (.int .i64 (q + 1)) (by kernel_rfl) (by kernel_rfl) ?_
        refine wpList_nil ?_
        have hmk : Mk N bs2 (rdI (nexts arcs (rdI ws ((ws.length : Int) - 1))) q) := ⟨hw.1, hw.2, by omega⟩
        have hrn := rin_old hJ hqx hmk
        rw [show q.toNat + 1 = (q + 1).toNat by omega] at hrn
        refine x_then ?_
        exact ⟨(nexts arcs (rdI ws ((ws.length : Int) - 1))).length - (q + 1).toNat, by omega, (fun k_ : Nat => List.getD ((.pointer (some ⟨g, 0, none⟩)) :: (.int .i64 v) :: undef :: undef :: (.slice none 0 0) :: (.slice (some ⟨g2, 0, none⟩) N N) :: (.slice Aw2 ws2.length cw2) :: (.int .i64 (rdI ws ((ws.length : Int) - 1))) :: undef :: (.int .i64 (rdI (nexts arcs (rdI ws ((ws.length : Int) - 1))) q)) :: undef :: undef :: undef :: (.int .i64 v) :: (.bool false) :: (.bool false) :: (.int .i64 v) :: (.pointer (some ⟨g, 0, none⟩)) :: (.int .i64 (N : Int)) :: (.bool false) :: (.bool false) :: (.pointer (some ⟨g, 0, none⟩)) :: (.pointer (some ⟨g, 0, none⟩)) :: (.pointer (some ⟨g, 0, none⟩)) :: (.int .i64 (N : Int)) :: (.slice (some ⟨g2, 0, none⟩) N N) :: (.slice (some ⟨g2, 0, none⟩) N N) :: (.int .i64 v) :: (.pointer (some ⟨g2, v.toNat, none⟩)) :: (.int .i64 v) :: (.slice (some ⟨g6, 0, none⟩) 1 1) :: (.slice (some ⟨g12, 0, none⟩) ws.length cw) :: (.int .i64 (ws.length : Int)) :: (.bool true) :: (.slice (some ⟨g12, 0, none⟩) ws.length cw) :: (.slice (some ⟨g12, 0, none⟩) ws.length cw) :: (.int .i64 (ws.length : Int)) :: (.int .i64 ((ws.length : Int) - 1)) :: (.pointer (some ⟨g12, ((ws.length : Int) - 1).toNat, none⟩)) :: (.int .i64 (rdI ws ((ws.length : Int) - 1))) :: (.slice (some ⟨g12, 0, none⟩) ws.length cw) :: (.slice (some ⟨g12, 0, none⟩) ws.length cw) :: (.int .i64 (ws.length : Int)) :: (.int .i64 ((ws.length : Int) - 1)) :: (.slice (some ⟨g12, 0, none⟩) xs13.length cw) :: (.pointer (some ⟨g, 0, none⟩)) :: (.int .i64 (rdI ws ((ws.length : Int) - 1))) :: (.slice (some ⟨g19, 0, none⟩) ((nexts arcs (rdI ws ((ws.length : Int) - 1))).length) c9) :: (.int .i64 ((nexts arcs (rdI ws ((ws.length : Int) - 1))).length : Int)) :: (.int .i64 (q + 1)) :: (.bool true) :: (.pointer (some ⟨g19, q.toNat, none⟩)) :: (.int .i64 (rdI (nexts arcs (rdI ws ((ws.length : Int) - 1))) q)) :: (.slice (some ⟨g2, 0, none⟩) N N) :: (.int .i64 (rdI (nexts arcs (rdI ws ((ws.length : Int) - 1))) q)) :: (.pointer (some ⟨g2, (rdI (nexts arcs (rdI ws ((ws.length : Int) - 1))) q).toNat, none⟩)) :: (.int .i64 (rdI bs2 (rdI (nexts arcs (rdI ws ((ws.length : Int) - 1))) q))) :: (.bool false) :: ((J15 58)) :: ((J15 59)) :: ((J15 60)) :: ((J15 61)) :: ((J15 62)) :: ((J15 63)) :: ((J15 64)) :: (.int .i64 (q + 1)) :: undef :: undef :: undef :: undef :: undef :: undef :: undef :: undef :: undef :: undef :: undef :: undef :: undef :: undef :: undef :: []) k_ undef), q + 1, Aw2, cw2, ws2, bs2, congrArg Fr (by kernel_rfl), rfl, by omega, by omega, hrn, by omega, HS⟩
    · skip
      refine ql (.bool false) (by kernel_rfl) (R_nbool (p := q < ((nexts arcs (rdI ws ((ws.length : Int) - 1))).length : Int)) (by kernel_rfl) (hc18)) ?_
      refine wpList_nil ?_
      refine x_then ?_
      refine wp_seq ?_
      refine wp_cond_false (by kernel_rfl) ?_
      refine wp_exit ?_
      refine x_thenE ?_
      refine x_thenE ?_
      refine x_hit ?_
      refine x_inb ?_
      replace HS := HS.drop1
      have hrd := rin_done hJ (by omega)
      refine x_then ?_
      exact ⟨ws2.length + zs bs2, by omega, (fun k_ : Nat => List.getD ((.pointer (some ⟨g, 0, none⟩)) :: (.int .i64 v) :: undef :: undef :: (.slice none 0 0) :: (.slice (some ⟨g2, 0, none⟩) N N) :: (.slice Aw2 ws2.length cw2) :: (.int .i64 (rdI ws ((ws.length : Int) - 1))) :: undef :: ((J15 9)) :: undef :: undef :: undef :: (.int .i64 v) :: (.bool false) :: (.bool false) :: (.int .i64 v) :: (.pointer (some ⟨g, 0, none⟩)) :: (.int .i64 (N : Int)) :: (.bool false) :: (.bool false) :: (.pointer (some ⟨g, 0, none⟩)) :: (.pointer (some ⟨g, 0, none⟩)) :: (.pointer (some ⟨g, 0, none⟩)) :: (.int .i64 (N : Int)) :: (.slice (some ⟨g2, 0, none⟩) N N) :: (.slice (some ⟨g2, 0, none⟩) N N) :: (.int .i64 v) :: (.pointer (some ⟨g2, v.toNat, none⟩)) :: (.int .i64 v) :: (.slice (some ⟨g6, 0, none⟩) 1 1) :: (.slice (some ⟨g12, 0, none⟩) ws.length cw) :: (.int .i64 (ws.length : Int)) :: (.bool true) :: (.slice (some ⟨g12, 0, none⟩) ws.length cw) :: (.slice (some ⟨g12, 0, none⟩) ws.length cw) :: (.int .i64 (ws.length : Int)) :: (.int .i64 ((ws.length : Int) - 1)) :: (.pointer (some ⟨g12, ((ws.length : Int) - 1).toNat, none⟩)) :: (.int .i64 (rdI ws ((ws.length : Int) - 1))) :: (.slice (some ⟨g12, 0, none⟩) ws.length cw) :: (.slice (some ⟨g12, 0, none⟩) ws.length cw) :: (.int .i64 (ws.length : Int)) :: (.int .i64 ((ws.length : Int) - 1)) :: (.slice (some ⟨g12, 0, none⟩) xs13.length cw) :: (.pointer (some ⟨g, 0, none⟩)) :: (.int .i64 (rdI ws ((ws.length : Int) - 1))) :: (.slice A9 ((nexts arcs (rdI ws ((ws.length : Int) - 1))).length) c9) :: (.int .i64 ((nexts arcs (rdI ws ((ws.length : Int) - 1))).length : Int)) :: (.int .i64 q) :: (.bool false) :: ((J15 51)) :: ((J15 52)) :: ((J15 53)) :: ((J15 54)) :: ((J15 55)) :: ((J15 56)) :: ((J15 57)) :: ((J15 58)) :: ((J15 59)) :: ((J15 60)) :: ((J15 61)) :: ((J15 62)) :: ((J15 63)) :: ((J15 64)) :: ((J15 65)) :: undef :: undef :: undef :: undef :: undef :: undef :: undef :: undef :: undef :: undef :: undef :: undef :: undef :: undef :: undef :: []) k_ undef), Aw2, cw2, ws2, bs2, congrArg Fr (by kernel_rfl), rfl, hrd, by omega, HS⟩
  · skip
    refine ql (.bool false) (by kernel_rfl) (R_nbool (p := (ws.length : Int) > (0 : Int)) (by kernel_rfl) (hc11)) ?_
    refine wpList_nil ?_
    refine x_then ?_
    refine wp_cond_false (by kernel_rfl) ?_
    refine wp_exit ?_
    refine x_thenE ?_
    refine x_thenE ?_
    refine x_hit ?_
    refine x_then ?_
    refine wp_seq ?_
    refine wp_region_lit ?_
    refine ql (.slice none 0 0) (by kernel_rfl) (by kernel_rfl) ?_
    refine wpList_nil ?_
    refine x_then ?_
    refine wp_seq ?_
    refine wp_seq ?_
    refine wp_region_lit ?_
    refine ql (.slice (some ⟨g2, 0, none⟩) N N) (by kernel_rfl) (by kernel_rfl) ?_
    refine ql (.int .i64 (N : Int)) (by kernel_rfl) (by kernel_rfl) ?_
    refine ql (.int .i64 0) (by kernel_rfl) (by kernel_rfl) ?_
    refine wpList_nil ?_
    refine x_then ?_
    refine wp_block ?_
    have hw0 : ws = [] := List.eq_nil_of_length_eq_zero (by omega)
    have hI0 : RInv N arcs v bs [] := by rw [← hw0]; exact hI
    replace HS := HS.drop1
    replace HS : St W (owns []) W10 [row none 0 0 (ci .i64 ([])) 3 1, row (some ⟨g2, 0, none⟩) N N (ci .i64 bs) 3 1] := (HS.nilRow 3 1).cast_ (by kernel_rfl)
    refine wp_loop_ghost (fun kq a' w' => ∃ (J29 : Nat → Value) (p : Int) (Ao : Option Addr) (co : Nat) (os_ : List Int) , a' = Fr ((.pointer (some ⟨g, 0, none⟩)) :: (.int .i64 v) :: undef :: undef :: (.slice none 0 0) :: (.slice (some ⟨g2, 0, none⟩) N N) :: (.slice Aw ws.length cw) :: ((J8 7)) :: undef :: ((J8 9)) :: (.slice Ao os_.length co) :: ((J29 11)) :: ((J29 12)) :: (.int .i64 v) :: (.bool false) :: (.bool false) :: (.int .i64 v) :: (.pointer (some ⟨g, 0, none⟩)) :: (.int .i64 (N : Int)) :: (.bool false) :: (.bool false) :: (.pointer (some ⟨g, 0, none⟩)) :: (.pointer (some ⟨g, 0, none⟩)) :: (.pointer (some ⟨g, 0, none⟩)) :: (.int .i64 (N : Int)) :: (.slice (some ⟨g2, 0, none⟩) N N) :: (.slice (some ⟨g2, 0, none⟩) N N) :: (.int .i64 v) :: (.pointer (some ⟨g2, v.toNat, none⟩)) :: (.int .i64 v) :: (.slice (some ⟨g6, 0, none⟩) 1 1) :: (.slice Aw ws.length cw) :: (.int .i64 (ws.length : Int)) :: (.bool false) :: ((J8 34)) :: ((J8 35)) :: ((J8 36)) :: ((J8 37)) :: ((J8 38)) :: ((J8 39)) :: ((J8 40)) :: ((J8 41)) :: ((J8 42)) :: ((J8 43)) :: ((J8 44)) :: ((J8 45)) :: ((J8 46)) :: ((J8 47)) :: ((J8 48)) :: ((J8 49)) :: ((J8 50)) :: ((J8 51)) :: ((J8 52)) :: ((J8 53)) :: ((J8 54)) :: ((J8 55)) :: ((J8 56)) :: ((J8 57)) :: ((J8 58)) :: ((J8 59)) :: ((J8 60)) :: ((J8 61)) :: ((J8 62)) :: ((J8 63)) :: ((J8 64)) :: ((J8 65)) :: (.slice (some ⟨g2, 0, none⟩) N N) :: (.int .i64 (N : Int)) :: (.int .i64 p) :: ((J29 69)) :: ((J29 70)) :: ((J29 71)) :: ((J29 72)) :: ((J29 73)) :: ((J29 74)) :: ((J29 75)) :: ((J29 76)) :: ((J29 77)) :: ((J29 78)) :: ((J29 79)) :: undef :: []) ∧ kq = (N - (p).toNat) ∧ (0 ≤ p) ∧ (p ≤ N) ∧ (os_ = mkd (p).toNat bs) ∧ St W (owns []) w' [row Ao os_.length co (ci .i64 os_) 3 1, row (some ⟨g2, 0, none⟩) N N (ci .i64 bs) 3 1]) (N - ((0 : Int)).toNat) ⟨(fun k_ : Nat => List.getD ((.pointer (some ⟨g, 0, none⟩)) :: (.int .i64 v) :: undef :: undef :: (.slice none 0 0) :: (.slice (some ⟨g2, 0, none⟩) N N) :: (.slice Aw ws.length cw) :: ((J8 7)) :: undef :: ((J8 9)) :: (.slice none 0 0) :: undef :: undef :: (.int .i64 v) :: (.bool false) :: (.bool false) :: (.int .i64 v) :: (.pointer (some ⟨g, 0, none⟩)) :: (.int .i64 (N : Int)) :: (.bool false) :: (.bool false) :: (.pointer (some ⟨g, 0, none⟩)) :: (.pointer (some ⟨g, 0, none⟩)) :: (.pointer (some ⟨g, 0, none⟩)) :: (.int .i64 (N : Int)) :: (.slice (some ⟨g2, 0, none⟩) N N) :: (.slice (some ⟨g2, 0, none⟩) N N) :: (.int .i64 v) :: (.pointer (some ⟨g2, v.toNat, none⟩)) :: (.int .i64 v) :: (.slice (some ⟨g6, 0, none⟩) 1 1) :: (.slice Aw ws.length cw) :: (.int .i64 (ws.length : Int)) :: (.bool false) :: ((J8 34)) :: ((J8 35)) :: ((J8 36)) :: ((J8 37)) :: ((J8 38)) :: ((J8 39)) :: ((J8 40)) :: ((J8 41)) :: ((J8 42)) :: ((J8 43)) :: ((J8 44)) :: ((J8 45)) :: ((J8 46)) :: ((J8 47)) :: ((J8 48)) :: ((J8 49)) :: ((J8 50)) :: ((J8 51)) :: ((J8 52)) :: ((J8 53)) :: ((J8 54)) :: ((J8 55)) :: ((J8 56)) :: ((J8 57)) :: ((J8 58)) :: ((J8 59)) :: ((J8 60)) :: ((J8 61)) :: ((J8 62)) :: ((J8 63)) :: ((J8 64)) :: ((J8 65)) :: (.slice (some ⟨g2, 0, none⟩) N N) :: (.int .i64 (N : Int)) :: (.int .i64 0) :: undef :: undef :: undef :: undef :: undef :: undef :: undef :: undef :: undef :: undef :: undef :: undef :: []) k_ undef), (0 : Int), none, 0, ([] : List Int), congrArg Fr (by kernel_rfl), rfl, by omega, by omega, by unfold mkd; rfl, HS⟩ ?_
    clear HS
    intro kq30 a' W31 hrel
    obtain ⟨J29, p, Ao, co, os_, rfl, hk, p0, p1, ho, HS⟩ := hrel
    have hol : os_.length ≤ p.toNat := by rw [ho]; exact mkd_le _ _
    refine wp_seq ?_
    refine wp_region_lit ?_
    by_cases hc32 : p < (N : Int)
    · skip
      refine ql (.bool true) (by kernel_rfl) (R_bool (p := p < (N : Int)) (by kernel_rfl) (hc32)) ?_
      refine wpList_nil ?_
      refine x_then ?_
      refine wp_seq ?_
      refine wp_cond_true (by kernel_rfl) ?_
      refine wp_skip ?_
      refine x_then ?_
      refine wp_seq ?_
      refine wp_block ?_
      refine wp_seq ?_
      refine wp_region_lit ?_
      refine ql (.int .i64 p) (by kernel_rfl) (by kernel_rfl) ?_
      refine ql (.pointer (some ⟨g2, p.toNat, none⟩)) (by kernel_rfl) (R_index1 (k := .i64) (g := g2) (n := N) (c := N) (i := p) (by kernel_rfl) (by kernel_rfl) Try.underlying28 (by kernel_rfl) (by omega) (by omega)) ?_
      refine ql (.int .i64 (rdI bs p)) (by kernel_rfl) (R_load (p := ⟨g2, p.toNat, none⟩) (by kernel_rfl) (by kernel_rfl) (by kernel_rfl) (HS.rcell (i := 1) rfl (ci_rd (by omega) (by omega)))) ?_
      refine ql (.int .i64 p) (by kernel_rfl) (by kernel_rfl) ?_
      refine ql (.int .i64 (rdI bs p)) (by kernel_rfl) (by kernel_rfl) ?_
      refine wpList_nil ?_
      refine x_then ?_
      refine wp_seq ?_
      refine wp_region_lit ?_
      refine ql (.int .i64 (rdI bs p)) (by kernel_rfl) (by kernel_rfl) ?_
      by_cases hc33 : (rdI bs p) > (0 : Int)
      · skip
        refine ql (.bool true) (by kernel_rfl) (R_bool (p := (rdI bs p) > (0 : Int)) (by kernel_rfl) (hc33)) ?_
        refine wpList_nil ?_
        refine x_then ?_
        refine wp_cond_true (by kernel_rfl) ?_
        refine wp_region_lit ?_
        refine ql (.slice Ao os_.length co) (by kernel_rfl) (by kernel_rfl) ?_
        refine ql (.int .i64 p) (by kernel_rfl) (by kernel_rfl) ?_
        refine kl HS 1 [.int .i64 p] 3 1 (by kernel_rfl) (by kernel_rfl) rfl (by decide) ?_
        intro g34 W35 H_
        replace HS : St W (owns []) W35 [row (some ⟨g34, 0, none⟩) 1 1 (ci .i64 ([p])) 3 1, row Ao os_.length co (ci .i64 os_) 3 1, row (some ⟨g2, 0, none⟩) N N (ci .i64 bs) 3 1] := H_.cast_ (by kernel_rfl)
        clear H_
        obtain ⟨xs39, xs39_⟩ : ∃ z_ : List Int, z_ = os_ ++ ([p]) := ⟨_, rfl⟩
        have xs39l : xs39.length = os_.length + 1 := by rw [xs39_, List.length_append] <;> (try simp only [List.length_cons, List.length_nil]) <;> omega
        refine ka1 HS 1 rfl (Src.of_row HS (i := 0) rfl ci_one) [.int .i64 0] 8 xs39.length (ci .i64 xs39) (by omega) (by rw [xs39_, ci_app]) (by kernel_rfl) (by kernel_rfl) (by kernel_rfl) Try.underlying28 (by kernel_rfl) (by kernel_rfl) (by kernel_rfl) (by kernel_rfl) (by decide) (by omega) (by omega) ?_
        intro A36 c37 W38 H_
        replace HS : St W (owns []) W38 [row (some ⟨g34, 0, none⟩) 1 1 (ci .i64 ([p])) 3 1, row A36 xs39.length c37 (ci .i64 xs39) 3 1, row (some ⟨g2, 0, none⟩) N N (ci .i64 bs) 3 1] := H_
        clear H_
        refine ql (.slice A36 xs39.length c37) (by kernel_rfl) (by kernel_rfl) ?_
        refine wpList_nil ?_
        refine x_inb ?_
        refine x_then ?_
        refine wp_region_lit ?_
        refine ql (.int .i64 (p + 1)) (by kernel_rfl) (R_int (by kernel_rfl) (w64 (by omega))) ?_
        refine ql (.int .i64 (p + 1)) (by kernel_rfl) (by kernel_rfl) ?_
        refine wpList_nil ?_
        replace HS := HS.drop1
        have hms := mkd_step (bs := bs) p0
        rw [if_pos hc33, ← ho] at hms
        refine x_then ?_
        exact ⟨N - (p + 1).toNat, by omega, (fun k_ : Nat => List.getD ((.pointer (some ⟨g, 0, none⟩)) :: (.int .i64 v) :: undef :: undef :: (.slice none 0 0) :: (.slice (some ⟨g2, 0, none⟩) N N) :: (.slice Aw ws.length cw) :: ((J8 7)) :: undef :: ((J8 9)) :: (.slice A36 xs39.length c37) :: (.int .i64 p) :: (.int .i64 (rdI bs p)) :: (.int .i64 v) :: (.bool false) :: (.bool false) :: (.int .i64 v) :: (.pointer (some ⟨g, 0, none⟩)) :: (.int .i64 (N : Int)) :: (.bool false) :: (.bool false) :: (.pointer (some ⟨g, 0, none⟩)) :: (.pointer (some ⟨g, 0, none⟩)) :: (.pointer (some ⟨g, 0, none⟩)) :: (.int .i64 (N : Int)) :: (.slice (some ⟨g2, 0, none⟩) N N) :: (.slice (some ⟨g2, 0, none⟩) N N) :: (.int .i64 v) :: (.pointer (some ⟨g2, v.toNat, none⟩)) :: (.int .i64 v) :: (.slice (some ⟨g6, 0, none⟩) 1 1) :: (.slice Aw ws.length cw) :: (.int .i64 (ws.length : Int)) :: (.bool false) :: ((J8 34)) :: ((J8 35)) :: ((J8 36)) :: ((J8 37)) :: ((J8 38)) :: ((J8 39)) :: ((J8 40)) :: ((J8 41)) :: ((J8 42)) :: ((J8 43)) :: ((J8 44)) :: ((J8 45)) :: ((J8 46)) :: ((J8 47)) :: ((J8 48)) :: ((J8 49)) :: ((J8 50)) :: ((J8 51)) :: ((J8 52)) :: ((J8 53)) :: ((J8 54)) :: ((J8 55)) :: ((J8 56)) :: ((J8 57)) :: ((J8 58)) :: ((J8 59)) :: ((J8 60)) :: ((J8 61)) :: ((J8 62)) :: ((J8 63)) :: ((J8 64)) :: ((J8 65)) :: (.slice (some ⟨g2, 0, none⟩) N N) :: (.int .i64 (N : Int)) :: (.int .i64 (p + 1)) :: (.bool true) :: (.int .i64 p) :: (.pointer (some ⟨g2, p.toNat, none⟩)) :: (.int .i64 (rdI bs p)) :: (.int .i64 (rdI bs p)) :: (.bool true) :: (.slice Ao os_.length co) :: (.int .i64 p) :: (.slice (some ⟨g34, 0, none⟩) 1 1) :: (.slice A36 xs39.length c37) :: (.int .i64 (p + 1)) :: undef :: []) k_ undef), p + 1, A36, c37, xs39, congrArg Fr (by kernel_rfl), rfl, by omega, by omega, by rw [hms, xs39_], HS⟩
      · skip
        refine ql (.bool false) (by kernel_rfl) (R_nbool (p := (rdI bs p) > (0 : Int)) (by kernel_rfl) (hc33)) ?_
        refine wpList_nil ?_
        refine x_then ?_
        refine wp_cond_false (by kernel_rfl) ?_
        refine wp_skip ?_
        refine x_inb ?_
        refine x_then ?_
        refine wp_region_lit ?_
        refine ql (.int .i64 (p + 1)) (by kernel_rfl) (R_int (by kernel_rfl) (w64 (by omega))) ?_
        refine ql (.int .i64 (p + 1)) (by kernel_rfl) (by kernel_rfl) ?_
        refine wpList_nil ?_
        have hms := mkd_step (bs := bs) p0
        rw [if_neg hc33, ← ho] at hms
        refine x_then ?_
        exact ⟨N - (p + 1).toNat, by omega, (fun k_ : Nat => List.getD ((.pointer (some ⟨g, 0, none⟩)) :: (.int .i64 v) :: undef :: undef :: (.slice none 0 0) :: (.slice (some ⟨g2, 0, none⟩) N N) :: (.slice Aw ws.length cw) :: ((J8 7)) :: undef :: ((J8 9)) :: (.slice Ao os_.length co) :: (.int .i64 p) :: (.int .i64 (rdI bs p)) :: (.int .i64 v) :: (.bool false) :: (.bool false) :: (.int .i64 v) :: (.pointer (some ⟨g, 0, none⟩)) :: (.int .i64 (N : Int)) :: (.bool false) :: (.bool false) :: (.pointer (some ⟨g, 0, none⟩)) :: (.pointer (some ⟨g, 0, none⟩)) :: (.pointer (some ⟨g, 0, none⟩)) :: (.int .i64 (N : Int)) :: (.slice (some ⟨g2, 0, none⟩) N N) :: (.slice (some ⟨g2, 0, none⟩) N N) :: (.int .i64 v) :: (.pointer (some ⟨g2, v.toNat, none⟩)) :: (.int .i64 v) :: (.slice (some ⟨g6, 0, none⟩) 1 1) :: (.slice Aw ws.length cw) :: (.int .i64 (ws.length : Int)) :: (.bool false) :: ((J8 34)) :: ((J8 35)) :: ((J8 36)) :: ((J8 37)) :: ((J8 38)) :: ((J8 39)) :: ((J8 40)) :: ((J8 41)) :: ((J8 42)) :: ((J8 43)) :: ((J8 44)) :: ((J8 45)) :: ((J8 46)) :: ((J8 47)) :: ((J8 48)) :: ((J8 49)) :: ((J8 50)) :: ((J8 51)) :: ((J8 52)) :: ((J8 53)) :: ((J8 54)) :: ((J8 55)) :: ((J8 56)) :: ((J8 57)) :: ((J8 58)) :: ((J8 59)) :: ((J8 60)) :: ((J8 61)) :: ((J8 62)) :: ((J8 63)) :: ((J8 64)) :: ((J8 65)) :: (.slice (some ⟨g2, 0, none⟩) N N) :: (.int .i64 (N : Int)) :: (.int .i64 (p + 1)) :: (.bool true) :: (.int .i64 p) :: (.pointer (some ⟨g2, p.toNat, none⟩)) :: (.int .i64 (rdI bs p)) :: (.int .i64 (rdI bs p)) :: (.bool false) :: ((J29 75)) :: ((J29 76)) :: ((J29 77)) :: ((J29 78)) :: (.int .i64 (p + 1)) :: undef :: []) k_ undef), p + 1, Ao, co, os_, congrArg Fr (by kernel_rfl), rfl, by omega, by omega, by rw [hms, List.append_nil], HS⟩
    · skip
      have hre : os_ = reach N arcs v := by rw [ho, show p.toNat = N by omega]; exact mkd_reach hI0 hF
      refine ql (.bool false) (by kernel_rfl) (R_nbool (p := p < (N : Int)) (by kernel_rfl) (hc32)) ?_
      refine wpList_nil ?_
      refine x_then ?_
      refine wp_seq ?_
      refine wp_cond_false (by kernel_rfl) ?_
      refine wp_exit ?_
      refine x_thenE ?_
      refine x_thenE ?_
      refine x_hit ?_
      refine x_then ?_
      refine wp_seq ?_
      refine wp_region_lit ?_
      refine ql (.slice Ao os_.length co) (by kernel_rfl) (by kernel_rfl) ?_
      refine ql (.slice Ao os_.length co) (by kernel_rfl) (by kernel_rfl) ?_
      refine wpList_nil ?_
      refine x_then ?_
      refine wp_ret ?_
      refine ret_ (.slice Ao os_.length co) (by kernel_rfl) ?_
      replace HS : St W (owns []) W31 [row Ao os_.length co (ci .i64 os_) 3 1] := St.tail (F := [row (some ⟨g2, 0, none⟩) N N (ci .i64 bs) 3 1]) (HS.perm (perm_ [1, 0] (by kernel_rfl) rfl))
      subst hre
      exact ⟨_, _, rfl, HS⟩

end Go.Proofs.Ythfpdpjccnnlhaa.GBfsLayers
