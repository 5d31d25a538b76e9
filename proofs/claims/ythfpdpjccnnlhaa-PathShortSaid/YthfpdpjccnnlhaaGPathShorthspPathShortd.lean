/- Written for this claim by gp.py, a program of this session's, over the kit's print. Lean checks it. -/
import Derived.Test.YthfpdpjccnnlhaaGPathShortx0
import Derived.Test.YthfpdpjccnnlhaaGPathShorthx
import Derived.Test.YthfpdpjccnnlhaaGPathShorthspPathShorta
import Derived.Test.YthfpdpjccnnlhaaGPathShorthspPathShortb
import Derived.Test.YthfpdpjccnnlhaaGPathShorthspPathShortc
import Derived.WalkKit
import Derived.StillTailTactics
import Derived.Deep.LoopGhost
import Derived.KernelRfl
import Derived.Deep.OwnRows
import Derived.Laws.OwnMore
import Derived.Laws.MakeOwn
import Derived.Maps.AppendAt
import Derived.OrdersHeld
namespace Go.Proofs.Ythfpdpjccnnlhaa.GPathShort
open Go.RowKit Go.Proofs.YthfpdpjccnnlhaaW.PrintWords Go.Proofs.YthfpdpjccnnlhaaW.PrintLast Go.Proofs.YthfpdpjccnnlhaaW.PrintMore
attribute [local go_sem] max2_int min2_int max_two min_two max_three min_three max_four min_four   -- for this text's walks alone
set_option linter.unusedVariables false
set_option linter.unusedSimpArgs false

--import Derived.WalkKit
--import Derived.StillTailTactics
--import Derived.Deep.LoopGhost
--import Derived.KernelRfl
--import Derived.Deep.OwnRows
--import Derived.Laws.OwnMore
--import Derived.Laws.MakeOwn
--import Derived.Maps.AppendAt
--import Derived.OrdersHeld
attribute [local irreducible] wpStill wpList Code.wp TA
set_option maxRecDepth 100000 in
set_option maxHeartbeats 1000000 in
theorem from_yes_c (g N : Nat) (arcs : List (Int × Int)) (v : Int) (gc tc : Nat) (k0 : Int) (W0 W : World) (hG : GAt W0 g N arcs) (hB0 : Below W0.heap.size W0 W) (hgc : W0.heap.size ≤ gc) (HS : St W (owns [blk gc [.int .i64 0, .int .i64 0, .int .i64 0, .int .i64 0, .int .i64 0, .int .i64 0, .int .i64 k0] tc]) W [blk gc [.int .i64 0, .int .i64 0, .int .i64 0, .int .i64 0, .int .i64 0, .int .i64 0, .int .i64 k0] tc]) (hk0 : 0 ≤ k0) (hk9 : k0 ≤ 1099511627776) (hN : N ≤ 1048576) (hm : arcs.length ≤ 67108864) (hv0 : 0 ≤ v) (hv1 : v < N) : Calls Try.prog 30 #[.pointer (some ⟨g, 0, none⟩), .int .i64 v, .pointer (some ⟨gc, 0, none⟩)] W fun e W' => ∃ (t : Nat) (D B : Option Addr) (cd cb : Nat) (ds bs : List Int) (k : Nat), e = .returned (.pointer (some ⟨t, 0, none⟩)) ∧ St W (owns [blk gc [.int .i64 0, .int .i64 0, .int .i64 0, .int .i64 0, .int .i64 0, .int .i64 0, .int .i64 k0] tc]) W' [blk t [.int .i64 v, .slice D N cd, .slice B N cb] 72, row D N cd (ci .i64 ds) 3 1, row B N cb (ci .i64 bs) 3 1, blk gc [.int .i64 0, .int .i64 0, .int .i64 0, .int .i64 0, .int .i64 0, .int .i64 0, .int .i64 (k0 + ((k : Nat) : Int))] tc] ∧ DS N arcs v ds ∧ BK N arcs ds bs ∧ k ≤ N + arcs.length := by
  have hF := hG.fine
  refine calls_enter ((.pointer (some ⟨g, 0, none⟩)) :: (.int .i64 v) :: (.pointer (some ⟨gc, 0, none⟩)) :: undef :: undef :: undef :: undef :: undef :: undef :: undef :: undef :: undef :: undef :: undef :: undef :: undef :: undef :: undef :: undef :: undef :: undef :: undef :: undef :: undef :: undef :: undef :: undef :: undef :: undef :: undef :: undef :: undef :: undef :: undef :: undef :: undef :: undef :: undef :: undef :: undef :: undef :: undef :: undef :: undef :: undef :: undef :: undef :: undef :: undef :: undef :: undef :: undef :: undef :: undef :: undef :: undef :: undef :: undef :: undef :: undef :: undef :: undef :: undef :: undef :: undef :: undef :: undef :: undef :: undef :: undef :: undef :: undef :: undef :: undef :: undef :: undef :: undef :: undef :: undef :: undef :: undef :: undef :: undef :: undef :: undef :: undef :: undef :: undef :: undef :: undef :: undef :: undef :: undef :: undef :: undef :: undef :: undef :: undef :: undef :: undef :: undef :: undef :: undef :: undef :: undef :: undef :: undef :: undef :: undef :: undef :: undef :: undef :: undef :: undef :: undef :: undef :: undef :: undef :: undef :: undef :: undef :: undef :: undef :: undef :: undef :: undef :: undef :: undef :: undef :: undef :: undef :: undef :: undef :: undef :: undef :: undef :: undef :: undef :: undef :: undef :: undef :: undef :: undef :: undef :: undef :: undef :: undef :: undef :: undef :: undef :: undef :: undef :: undef :: undef :: undef :: undef :: undef :: undef :: []) Try.func30 rfl (by kernel_rfl) ?_
  refine wp_seq ?_
  refine wp_region_lit ?_
  refine ql (.pointer none) (by kernel_rfl) (by kernel_rfl) ?_
  refine wpList_nil ?_
  refine x_then ?_
  refine wp_seq ?_
  refine wp_region_lit ?_
  refine ql (.pointer (some ⟨g, 0, none⟩)) (by kernel_rfl) (by kernel_rfl) ?_
  refine qc (f := 17) (args := #[.pointer (some ⟨g, 0, none⟩)]) (by kernel_rfl) (R_call #[.pointer (some ⟨g, 0, none⟩)] Try.func17 (by kernel_rfl) (by kernel_rfl) (by kernel_rfl)) ?_
  refine (nodessome g N arcs _ (hG.below (below_gc hB0 HS hgc))).mono ?_
  rintro e W1 ⟨rfl, H_⟩
  refine ⟨_, rfl, ?_⟩
  replace HS : St W (owns [blk gc [.int .i64 0, .int .i64 0, .int .i64 0, .int .i64 0, .int .i64 0, .int .i64 0, .int .i64 k0] tc]) W1 [blk gc [.int .i64 0, .int .i64 0, .int .i64 0, .int .i64 0, .int .i64 0, .int .i64 0, .int .i64 k0] tc] := HS.join (F := []) (G := []) H_
  clear H_
  refine ql (.int .i64 (N : Int)) (by kernel_rfl) (by kernel_rfl) ?_
  refine wpList_nil ?_
  refine x_then ?_
  refine wp_seq_cut (fun a' w' => ∃ (u2 : Nat → Value) (gt_ : Nat) (gd_ : Nat) (gb_ : Nat) , a' = Fr ((.pointer (some ⟨g, 0, none⟩)) :: (.int .i64 v) :: (.pointer (some ⟨gc, 0, none⟩)) :: undef :: undef :: undef :: (.pointer none) :: (.int .i64 (N : Int)) :: (.pointer (some ⟨gt_, 0, none⟩)) :: undef :: undef :: undef :: undef :: undef :: undef :: undef :: undef :: (.pointer (some ⟨g, 0, none⟩)) :: (.int .i64 (N : Int)) :: ((u2 19)) :: ((u2 20)) :: ((u2 21)) :: ((u2 22)) :: ((u2 23)) :: ((u2 24)) :: ((u2 25)) :: undef :: undef :: undef :: undef :: undef :: undef :: undef :: undef :: undef :: undef :: undef :: undef :: undef :: undef :: undef :: undef :: undef :: undef :: undef :: undef :: undef :: undef :: undef :: undef :: undef :: undef :: undef :: undef :: undef :: undef :: undef :: undef :: undef :: undef :: undef :: undef :: undef :: undef :: undef :: undef :: undef :: undef :: undef :: undef :: undef :: undef :: undef :: undef :: undef :: undef :: undef :: undef :: undef :: undef :: undef :: undef :: undef :: undef :: undef :: undef :: undef :: undef :: undef :: undef :: undef :: undef :: undef :: undef :: undef :: undef :: undef :: undef :: undef :: undef :: undef :: undef :: undef :: undef :: undef :: undef :: undef :: undef :: undef :: undef :: undef :: undef :: undef :: undef :: undef :: undef :: undef :: undef :: undef :: undef :: undef :: undef :: undef :: undef :: undef :: undef :: undef :: undef :: undef :: undef :: undef :: undef :: undef :: undef :: undef :: undef :: undef :: undef :: undef :: undef :: undef :: undef :: undef :: undef :: undef :: undef :: undef :: undef :: undef :: undef :: undef :: undef :: undef :: undef :: undef :: undef :: undef :: undef :: []) ∧ St W (owns [blk gc [.int .i64 0, .int .i64 0, .int .i64 0, .int .i64 0, .int .i64 0, .int .i64 0, .int .i64 k0] tc]) w' [blk gt_ [.int .i64 v, .slice (some ⟨gd_, 0, none⟩) N N, .slice (some ⟨gb_, 0, none⟩) N N] 72, row (some ⟨gd_, 0, none⟩) N N (ci .i64 (List.replicate N 0)) 3 1, row (some ⟨gb_, 0, none⟩) N N (ci .i64 (List.replicate N 0)) 3 1, blk gc [.int .i64 0, .int .i64 0, .int .i64 0, .int .i64 0, .int .i64 0, .int .i64 0, .int .i64 k0] tc]) ?_ ?_
  · skip
    refine t_start HS (fun _ => False) 8 (by kernel_rfl) rfl ?_
    intro W3 H_ HD_
    clear HD_
    replace HS : St W (owns [blk gc [.int .i64 0, .int .i64 0, .int .i64 0, .int .i64 0, .int .i64 0, .int .i64 0, .int .i64 k0] tc]) W3 [blk gc [.int .i64 0, .int .i64 0, .int .i64 0, .int .i64 0, .int .i64 0, .int .i64 0, .int .i64 k0] tc] := H_
    clear H_
    have HV := HS
    have HK := Kpt.refl (fun _ => False) W3
    refine t_q (n := 7) 0 (.int .i64 v) rfl (by kernel_rfl) (by kernel_rfl) (fun _ _ _ h => h) (fun w' hk => (by kernel_rfl)) HK ?_
    refine t_q (n := 6) 1 (.int .i64 (N : Int)) rfl (by kernel_rfl) (by kernel_rfl) (fun _ _ _ h => h) (fun w' hk => (by kernel_rfl)) HK ?_
    refine t_q (n := 5) 3 (.int .i64 (N : Int)) rfl (by kernel_rfl) (by kernel_rfl) (fun _ _ _ h => h) (fun w' hk => (by kernel_rfl)) HK ?_
    refine t_pick2 (n := 4) 2 4 (by kernel_rfl) ?_ ?_
    · skip
      obtain ⟨g4, W5, hrun_, H_, hk_⟩ := ex_make (P := Try.prog) (ty := 28) (ps := "bfs.go:20") (af := #[{ on := 1, ground := Go.Ground.data }, { on := 1, ground := Go.Ground.data }]) (gd := none) (dst := some 21) (t := 28) (x := (Go.Operand.tmp 20)) (y := (Go.Operand.tmp 20)) (k1 := .i64) (k2 := .i64) HS (N) [.int .i64 0] 8 (k_eq (m := (N : Int)) (by kernel_rfl) (by omega)) (k_eq (m := (N : Int)) (by kernel_rfl) (by omega)) Try.underlying28 (by kernel_rfl) (by kernel_rfl) (by kernel_rfl) (by decide) (by omega) (by omega)
      refine t_e2 (n := 4) 2 (.slice (some ⟨g4, 0, none⟩) N N) rfl (by kernel_rfl) hrun_ (HK.tr hk_) ?_
      replace HK := HK.tr hk_
      clear hk_
      clear hrun_
      replace HS : St W (owns [blk gc [.int .i64 0, .int .i64 0, .int .i64 0, .int .i64 0, .int .i64 0, .int .i64 0, .int .i64 k0] tc]) W5 [row (some ⟨g4, 0, none⟩) N N (ci .i64 (List.replicate (N) 0)) 3 1, blk gc [.int .i64 0, .int .i64 0, .int .i64 0, .int .i64 0, .int .i64 0, .int .i64 0, .int .i64 k0] tc] := H_.cast_ (by rw [ci_rep]; rfl)
      clear H_
      have rlg4 : (List.replicate (N) (0 : Int)).length = N := List.length_replicate
      obtain ⟨g6, W7, hrun_, H_, hk_⟩ := ex_make (P := Try.prog) (ty := 28) (ps := "bfs.go:20") (af := #[{ on := 3, ground := Go.Ground.data }, { on := 3, ground := Go.Ground.data }]) (gd := none) (dst := some 23) (t := 28) (x := (Go.Operand.tmp 22)) (y := (Go.Operand.tmp 22)) (k1 := .i64) (k2 := .i64) HS (N) [.int .i64 0] 8 (k_eq (m := (N : Int)) (by kernel_rfl) (by omega)) (k_eq (m := (N : Int)) (by kernel_rfl) (by omega)) Try.underlying28 (by kernel_rfl) (by kernel_rfl) (by kernel_rfl) (by decide) (by omega) (by omega)
      refine t_e (n := 3) 4 (.slice (some ⟨g6, 0, none⟩) N N) rfl (by kernel_rfl) (by kernel_rfl) hrun_ (HK.tr hk_) ?_
      replace HK := HK.tr hk_
      clear hk_
      clear hrun_
      replace HS : St W (owns [blk gc [.int .i64 0, .int .i64 0, .int .i64 0, .int .i64 0, .int .i64 0, .int .i64 0, .int .i64 k0] tc]) W7 [row (some ⟨g6, 0, none⟩) N N (ci .i64 (List.replicate (N) 0)) 3 1, row (some ⟨g4, 0, none⟩) N N (ci .i64 (List.replicate (N) 0)) 3 1, blk gc [.int .i64 0, .int .i64 0, .int .i64 0, .int .i64 0, .int .i64 0, .int .i64 0, .int .i64 k0] tc] := H_.cast_ (by rw [ci_rep]; rfl)
      clear H_
      have rlg6 : (List.replicate (N) (0 : Int)).length = N := List.length_replicate
      refine t_q (n := 2) 5 (.agg #[.int .i64 v, .slice (some ⟨g4, 0, none⟩) N N, .slice (some ⟨g6, 0, none⟩) N N]) rfl (by kernel_rfl) (by kernel_rfl) (fun _ _ _ h => h) (fun w' hk => (by kernel_rfl)) HK ?_
      obtain ⟨g8, W9, hg_, hw_, H_, hk_⟩ := ex_blk HS [.int .i64 v, .slice (some ⟨g4, 0, none⟩) N N, .slice (some ⟨g6, 0, none⟩) N N] 72
      refine t_e (n := 1) 6 (.pointer (some ⟨g8, 0, none⟩)) rfl (by kernel_rfl) (by kernel_rfl) (by subst hg_; subst hw_; kernel_rfl) (HK.tr hk_) ?_
      replace HK := HK.tr hk_
      clear hk_
      clear hg_ hw_
      replace HS : St W (owns [blk gc [.int .i64 0, .int .i64 0, .int .i64 0, .int .i64 0, .int .i64 0, .int .i64 0, .int .i64 k0] tc]) W9 [blk g8 [.int .i64 v, .slice (some ⟨g4, 0, none⟩) N N, .slice (some ⟨g6, 0, none⟩) N N] 72, row (some ⟨g6, 0, none⟩) N N (ci .i64 (List.replicate (N) 0)) 3 1, row (some ⟨g4, 0, none⟩) N N (ci .i64 (List.replicate (N) 0)) 3 1, blk gc [.int .i64 0, .int .i64 0, .int .i64 0, .int .i64 0, .int .i64 0, .int .i64 0, .int .i64 k0] tc] := H_
      clear H_
      refine t_q (n := 0) 7 (.pointer (some ⟨g8, 0, none⟩)) rfl (by kernel_rfl) (by kernel_rfl) (fun _ _ _ h => h) (fun w' hk => (by kernel_rfl)) HK ?_
      refine t_done (by kernel_rfl) ?_
      clear HV HK
      replace HS : St W (owns [blk gc [.int .i64 0, .int .i64 0, .int .i64 0, .int .i64 0, .int .i64 0, .int .i64 0, .int .i64 k0] tc]) W9 [blk g8 [.int .i64 v, .slice (some ⟨g4, 0, none⟩) N N, .slice (some ⟨g6, 0, none⟩) N N] 72, row (some ⟨g4, 0, none⟩) N N (ci .i64 (List.replicate (N) 0)) 3 1, row (some ⟨g6, 0, none⟩) N N (ci .i64 (List.replicate (N) 0)) 3 1, blk gc [.int .i64 0, .int .i64 0, .int .i64 0, .int .i64 0, .int .i64 0, .int .i64 0, .int .i64 k0] tc] := HS.perm (perm_ [0, 2, 1, 3] (by kernel_rfl) rfl)
      refine x_then ?_
      exact ⟨(fun k_ : Nat => List.getD ((.pointer (some ⟨g, 0, none⟩)) :: (.int .i64 v) :: (.pointer (some ⟨gc, 0, none⟩)) :: undef :: undef :: undef :: (.pointer none) :: (.int .i64 (N : Int)) :: (.pointer (some ⟨g8, 0, none⟩)) :: undef :: undef :: undef :: undef :: undef :: undef :: undef :: undef :: (.pointer (some ⟨g, 0, none⟩)) :: (.int .i64 (N : Int)) :: (.int .i64 v) :: (.int .i64 (N : Int)) :: (.slice (some ⟨g4, 0, none⟩) N N) :: (.int .i64 (N : Int)) :: (.slice (some ⟨g6, 0, none⟩) N N) :: (.agg #[.int .i64 v, .slice (some ⟨g4, 0, none⟩) N N, .slice (some ⟨g6, 0, none⟩) N N]) :: (.pointer (some ⟨g8, 0, none⟩)) :: undef :: undef :: undef :: undef :: undef :: undef :: undef :: undef :: undef :: undef :: undef :: undef :: undef :: undef :: undef :: undef :: undef :: undef :: undef :: undef :: undef :: undef :: undef :: undef :: undef :: undef :: undef :: undef :: undef :: undef :: undef :: undef :: undef :: undef :: undef :: undef :: undef :: undef :: undef :: undef :: undef :: undef :: undef :: undef :: undef :: undef :: undef :: undef :: undef :: undef :: undef :: undef :: undef :: undef :: undef :: undef :: undef :: undef :: undef :: undef :: undef :: undef :: undef :: undef :: undef :: undef :: undef :: undef :: undef :: undef :: undef :: undef :: undef :: undef :: undef :: undef :: undef :: undef :: undef :: undef :: undef :: undef :: undef :: undef :: undef :: undef :: undef :: undef :: undef :: undef :: undef :: undef :: undef :: undef :: undef :: undef :: undef :: undef :: undef :: undef :: undef :: undef :: undef :: undef :: undef :: undef :: undef :: undef :: undef :: undef :: undef :: undef :: undef :: undef :: undef :: undef :: undef :: undef :: undef :: undef :: undef :: undef :: undef :: undef :: undef :: undef :: undef :: undef :: undef :: undef :: undef :: undef :: []) k_ undef), g8, g4, g6, congrArg Fr (by kernel_rfl), HS⟩
    · skip
      obtain ⟨g10, W11, hrun_, H_, hk_⟩ := ex_make (P := Try.prog) (ty := 28) (ps := "bfs.go:20") (af := #[{ on := 3, ground := Go.Ground.data }, { on := 3, ground := Go.Ground.data }]) (gd := none) (dst := some 23) (t := 28) (x := (Go.Operand.tmp 22)) (y := (Go.Operand.tmp 22)) (k1 := .i64) (k2 := .i64) HS (N) [.int .i64 0] 8 (k_eq (m := (N : Int)) (by kernel_rfl) (by omega)) (k_eq (m := (N : Int)) (by kernel_rfl) (by omega)) Try.underlying28 (by kernel_rfl) (by kernel_rfl) (by kernel_rfl) (by decide) (by omega) (by omega)
      refine t_e2 (n := 4) 4 (.slice (some ⟨g10, 0, none⟩) N N) rfl (by kernel_rfl) hrun_ (HK.tr hk_) ?_
      replace HK := HK.tr hk_
      clear hk_
      clear hrun_
      replace HS : St W (owns [blk gc [.int .i64 0, .int .i64 0, .int .i64 0, .int .i64 0, .int .i64 0, .int .i64 0, .int .i64 k0] tc]) W11 [row (some ⟨g10, 0, none⟩) N N (ci .i64 (List.replicate (N) 0)) 3 1, blk gc [.int .i64 0, .int .i64 0, .int .i64 0, .int .i64 0, .int .i64 0, .int .i64 0, .int .i64 k0] tc] := H_.cast_ (by rw [ci_rep]; rfl)
      clear H_
      have rlg10 : (List.replicate (N) (0 : Int)).length = N := List.length_replicate
      obtain ⟨g12, W13, hrun_, H_, hk_⟩ := ex_make (P := Try.prog) (ty := 28) (ps := "bfs.go:20") (af := #[{ on := 1, ground := Go.Ground.data }, { on := 1, ground := Go.Ground.data }]) (gd := none) (dst := some 21) (t := 28) (x := (Go.Operand.tmp 20)) (y := (Go.Operand.tmp 20)) (k1 := .i64) (k2 := .i64) HS (N) [.int .i64 0] 8 (k_eq (m := (N : Int)) (by kernel_rfl) (by omega)) (k_eq (m := (N : Int)) (by kernel_rfl) (by omega)) Try.underlying28 (by kernel_rfl) (by kernel_rfl) (by kernel_rfl) (by decide) (by omega) (by omega)
      refine t_e (n := 3) 2 (.slice (some ⟨g12, 0, none⟩) N N) rfl (by kernel_rfl) (by kernel_rfl) hrun_ (HK.tr hk_) ?_
      replace HK := HK.tr hk_
      clear hk_
      clear hrun_
      replace HS : St W (owns [blk gc [.int .i64 0, .int .i64 0, .int .i64 0, .int .i64 0, .int .i64 0, .int .i64 0, .int .i64 k0] tc]) W13 [row (some ⟨g12, 0, none⟩) N N (ci .i64 (List.replicate (N) 0)) 3 1, row (some ⟨g10, 0, none⟩) N N (ci .i64 (List.replicate (N) 0)) 3 1, blk gc [.int .i64 0, .int .i64 0, .int .i64 0, .int .i64 0, .int .i64 0, .int .i64 0, .int .i64 k0] tc] := H_.cast_ (by rw [ci_rep]; rfl)
      clear H_
      have rlg12 : (List.replicate (N) (0 : Int)).length = N := List.length_replicate
      refine t_q (n := 2) 5 (.agg #[.int .i64 v, .slice (some ⟨g12, 0, none⟩) N N, .slice (some ⟨g10, 0, none⟩) N N]) rfl (by kernel_rfl) (by kernel_rfl) (fun _ _ _ h => h) (fun w' hk => (by kernel_rfl)) HK ?_
      obtain ⟨g14, W15, hg_, hw_, H_, hk_⟩ := ex_blk HS [.int .i64 v, .slice (some ⟨g12, 0, none⟩) N N, .slice (some ⟨g10, 0, none⟩) N N] 72
      refine t_e (n := 1) 6 (.pointer (some ⟨g14, 0, none⟩)) rfl (by kernel_rfl) (by kernel_rfl) (by subst hg_; subst hw_; kernel_rfl) (HK.tr hk_) ?_
      replace HK := HK.tr hk_
      clear hk_
      clear hg_ hw_
      replace HS : St W (owns [blk gc [.int .i64 0, .int .i64 0, .int .i64 0, .int .i64 0, .int .i64 0, .int .i64 0, .int .i64 k0] tc]) W15 [blk g14 [.int .i64 v, .slice (some ⟨g12, 0, none⟩) N N, .slice (some ⟨g10, 0, none⟩) N N] 72, row (some ⟨g12, 0, none⟩) N N (ci .i64 (List.replicate (N) 0)) 3 1, row (some ⟨g10, 0, none⟩) N N (ci .i64 (List.replicate (N) 0)) 3 1, blk gc [.int .i64 0, .int .i64 0, .int .i64 0, .int .i64 0, .int .i64 0, .int .i64 0, .int .i64 k0] tc] := H_
      clear H_
      refine t_q (n := 0) 7 (.pointer (some ⟨g14, 0, none⟩)) rfl (by kernel_rfl) (by kernel_rfl) (fun _ _ _ h => h) (fun w' hk => (by kernel_rfl)) HK ?_
      refine t_done (by kernel_rfl) ?_
      clear HV HK
      refine x_then ?_
      exact ⟨(fun k_ : Nat => List.getD ((.pointer (some ⟨g, 0, none⟩)) :: (.int .i64 v) :: (.pointer (some ⟨gc, 0, none⟩)) :: undef :: undef :: undef :: (.pointer none) :: (.int .i64 (N : Int)) :: (.pointer (some ⟨g14, 0, none⟩)) :: undef :: undef :: undef :: undef :: undef :: undef :: undef :: undef :: (.pointer (some ⟨g, 0, none⟩)) :: (.int .i64 (N : Int)) :: (.int .i64 v) :: (.int .i64 (N : Int)) :: (.slice (some ⟨g12, 0, none⟩) N N) :: (.int .i64 (N : Int)) :: (.slice (some ⟨g10, 0, none⟩) N N) :: (.agg #[.int .i64 v, .slice (some ⟨g12, 0, none⟩) N N, .slice (some ⟨g10, 0, none⟩) N N]) :: (.pointer (some ⟨g14, 0, none⟩)) :: undef :: undef :: undef :: undef :: undef :: undef :: undef :: undef :: undef :: undef :: undef :: undef :: undef :: undef :: undef :: undef :: undef :: undef :: undef :: undef :: undef :: undef :: undef :: undef :: undef :: undef :: undef :: undef :: undef :: undef :: undef :: undef :: undef :: undef :: undef :: undef :: undef :: undef :: undef :: undef :: undef :: undef :: undef :: undef :: undef :: undef :: undef :: undef :: undef :: undef :: undef :: undef :: undef :: undef :: undef :: undef :: undef :: undef :: undef :: undef :: undef :: undef :: undef :: undef :: undef :: undef :: undef :: undef :: undef :: undef :: undef :: undef :: undef :: undef :: undef :: undef :: undef :: undef :: undef :: undef :: undef :: undef :: undef :: undef :: undef :: undef :: undef :: undef :: undef :: undef :: undef :: undef :: undef :: undef :: undef :: undef :: undef :: undef :: undef :: undef :: undef :: undef :: undef :: undef :: undef :: undef :: undef :: undef :: undef :: undef :: undef :: undef :: undef :: undef :: undef :: undef :: undef :: undef :: undef :: undef :: undef :: undef :: undef :: undef :: undef :: undef :: undef :: undef :: undef :: undef :: undef :: undef :: []) k_ undef), g14, g12, g10, congrArg Fr (by kernel_rfl), HS⟩
  · clear HS
    rintro a' W16 ⟨u2, gt_, gd_, gb_, rfl, HS⟩
    refine wp_seq ?_
    refine wp_seq ?_
    refine wp_region_lit ?_
    refine ql (.int .i64 (N : Int)) (by kernel_rfl) (by kernel_rfl) ?_
    refine ql (.int .i64 0) (by kernel_rfl) (by kernel_rfl) ?_
    refine wpList_nil ?_
    refine x_then ?_
    refine wp_block ?_
    refine wp_loop_ghost (fun kq a' w' => ∃ (J17 : Nat → Value) (w : Int) (ds0 : List Int) (bs0 : List Int) , a' = Fr ((.pointer (some ⟨g, 0, none⟩)) :: (.int .i64 v) :: (.pointer (some ⟨gc, 0, none⟩)) :: undef :: undef :: undef :: (.pointer none) :: (.int .i64 (N : Int)) :: (.pointer (some ⟨gt_, 0, none⟩)) :: ((J17 9)) :: undef :: undef :: undef :: undef :: undef :: undef :: undef :: (.pointer (some ⟨g, 0, none⟩)) :: (.int .i64 (N : Int)) :: ((u2 19)) :: ((u2 20)) :: ((u2 21)) :: ((u2 22)) :: ((u2 23)) :: ((u2 24)) :: ((u2 25)) :: (.int .i64 (N : Int)) :: (.int .i64 w) :: ((J17 28)) :: ((J17 29)) :: ((J17 30)) :: ((J17 31)) :: ((J17 32)) :: ((J17 33)) :: ((J17 34)) :: ((J17 35)) :: ((J17 36)) :: ((J17 37)) :: ((J17 38)) :: ((J17 39)) :: ((J17 40)) :: ((J17 41)) :: ((J17 42)) :: undef :: undef :: undef :: undef :: undef :: undef :: undef :: undef :: undef :: undef :: undef :: undef :: undef :: undef :: undef :: undef :: undef :: undef :: undef :: undef :: undef :: undef :: undef :: undef :: undef :: undef :: undef :: undef :: undef :: undef :: undef :: undef :: undef :: undef :: undef :: undef :: undef :: undef :: undef :: undef :: undef :: undef :: undef :: undef :: undef :: undef :: undef :: undef :: undef :: undef :: undef :: undef :: undef :: undef :: undef :: undef :: undef :: undef :: undef :: undef :: undef :: undef :: undef :: undef :: undef :: undef :: undef :: undef :: undef :: undef :: undef :: undef :: undef :: undef :: undef :: undef :: undef :: undef :: undef :: undef :: undef :: undef :: undef :: undef :: undef :: undef :: undef :: undef :: undef :: undef :: undef :: undef :: undef :: undef :: undef :: undef :: undef :: undef :: undef :: undef :: undef :: undef :: undef :: undef :: undef :: undef :: undef :: undef :: undef :: undef :: undef :: undef :: undef :: undef :: undef :: []) ∧ kq = (N - (w).toNat) ∧ (0 ≤ w) ∧ (w ≤ (N : Int)) ∧ (ds0 = List.replicate (w).toNat (-1) ++ List.replicate (N - (w).toNat) 0) ∧ (bs0 = List.replicate (w).toNat (-1) ++ List.replicate (N - (w).toNat) 0) ∧ ((ds0).length = N) ∧ ((bs0).length = N) ∧ St W (owns [blk gc [.int .i64 0, .int .i64 0, .int .i64 0, .int .i64 0, .int .i64 0, .int .i64 0, .int .i64 k0] tc]) w' [blk gt_ [.int .i64 v, .slice (some ⟨gd_, 0, none⟩) N N, .slice (some ⟨gb_, 0, none⟩) N N] 72, row (some ⟨gd_, 0, none⟩) N N (ci .i64 ds0) 3 1, row (some ⟨gb_, 0, none⟩) N N (ci .i64 bs0) 3 1, blk gc [.int .i64 0, .int .i64 0, .int .i64 0, .int .i64 0, .int .i64 0, .int .i64 0, .int .i64 k0] tc]) (N - ((0 : Int)).toNat) ⟨(fun k_ : Nat => List.getD ((.pointer (some ⟨g, 0, none⟩)) :: (.int .i64 v) :: (.pointer (some ⟨gc, 0, none⟩)) :: undef :: undef :: undef :: (.pointer none) :: (.int .i64 (N : Int)) :: (.pointer (some ⟨gt_, 0, none⟩)) :: undef :: undef :: undef :: undef :: undef :: undef :: undef :: undef :: (.pointer (some ⟨g, 0, none⟩)) :: (.int .i64 (N : Int)) :: ((u2 19)) :: ((u2 20)) :: ((u2 21)) :: ((u2 22)) :: ((u2 23)) :: ((u2 24)) :: ((u2 25)) :: (.int .i64 (N : Int)) :: (.int .i64 0) :: undef :: undef :: undef :: undef :: undef :: undef :: undef :: undef :: undef :: undef :: undef :: undef :: undef :: undef :: undef :: undef :: undef :: undef :: undef :: undef :: undef :: undef :: undef :: undef :: undef :: undef :: undef :: undef :: undef :: undef :: undef :: undef :: undef :: undef :: undef :: undef :: undef :: undef :: undef :: undef :: undef :: undef :: undef :: undef :: undef :: undef :: undef :: undef :: undef :: undef :: undef :: undef :: undef :: undef :: undef :: undef :: undef :: undef :: undef :: undef :: undef :: undef :: undef :: undef :: undef :: undef :: undef :: undef :: undef :: undef :: undef :: undef :: undef :: undef :: undef :: undef :: undef :: undef :: undef :: undef :: undef :: undef :: undef :: undef :: undef :: undef :: undef :: undef :: undef :: undef :: undef :: undef :: undef :: undef :: undef :: undef :: undef :: undef :: undef :: undef :: undef :: undef :: undef :: undef :: undef :: undef :: undef :: undef :: undef :: undef :: undef :: undef :: undef :: undef :: undef :: undef :: undef :: undef :: undef :: undef :: undef :: undef :: undef :: undef :: undef :: undef :: undef :: undef :: undef :: undef :: []) k_ undef), (0 : Int), List.replicate N 0, List.replicate N 0, congrArg Fr (by kernel_rfl), rfl, by omega, by omega, by simp, by simp, List.length_replicate, List.length_replicate, HS⟩ ?_
    clear HS
    intro kq18 a' W19 hrel
    obtain ⟨J17, w, ds0, bs0, rfl, hk, w0, w1, hd0, hb0, hdl, hbl, HS⟩ := hrel
    refine wp_seq ?_
    refine wp_region_lit ?_
    by_cases hc20 : w < (N : Int)
    · skip
      refine ql (.bool true) (by kernel_rfl) (R_bool (p := w < (N : Int)) (by kernel_rfl) (hc20)) ?_
      refine wpList_nil ?_
      refine x_then ?_
      refine wp_seq ?_
      refine wp_cond_true (by kernel_rfl) ?_
      refine wp_skip ?_
      refine x_then ?_
      refine wp_seq ?_
      refine wp_block ?_
      refine wp_seq ?_
      refine wp_region_lit ?_
      refine ql (.int .i64 w) (by kernel_rfl) (by kernel_rfl) ?_
      refine ql (.int .i64 w) (by kernel_rfl) (by kernel_rfl) ?_
      refine wpList_nil ?_
      refine x_then ?_
      refine t_start HS (fun k_ => (row (some ⟨gd_, 0, none⟩) N N (ci .i64 ds0) 3 1).own k_ ∨ (row (some ⟨gb_, 0, none⟩) N N (ci .i64 bs0) 3 1).own k_) 14 (by kernel_rfl) rfl ?_
      intro W21 H_ HD_
      clear HD_
      replace HS : St W (owns [blk gc [.int .i64 0, .int .i64 0, .int .i64 0, .int .i64 0, .int .i64 0, .int .i64 0, .int .i64 k0] tc]) W21 [blk gt_ [.int .i64 v, .slice (some ⟨gd_, 0, none⟩) N N, .slice (some ⟨gb_, 0, none⟩) N N] 72, row (some ⟨gd_, 0, none⟩) N N (ci .i64 ds0) 3 1, row (some ⟨gb_, 0, none⟩) N N (ci .i64 bs0) 3 1, blk gc [.int .i64 0, .int .i64 0, .int .i64 0, .int .i64 0, .int .i64 0, .int .i64 0, .int .i64 k0] tc] := H_
      clear H_
      have HV := HS
      have HK := Kpt.refl (fun k_ => (row (some ⟨gd_, 0, none⟩) N N (ci .i64 ds0) 3 1).own k_ ∨ (row (some ⟨gb_, 0, none⟩) N N (ci .i64 bs0) 3 1).own k_) W21
      refine t_q (n := 13) 0 (.pointer (some ⟨gt_, 0, none⟩)) rfl (by kernel_rfl) (by kernel_rfl) (fun _ _ _ h => h) (fun w' hk => (by kernel_rfl)) HK ?_
      refine t_q (n := 12) 1 (.pointer (some ⟨gt_, 0, none⟩)) rfl (by kernel_rfl) (by kernel_rfl) (fun _ _ _ h => h) (fun w' hk => (by kernel_rfl)) HK ?_
      refine t_q (n := 11) 2 (.pointer (some ⟨gt_, 1, none⟩)) rfl (by kernel_rfl) (by kernel_rfl) (fun _ _ _ h => h) (fun w' hk => (by kernel_rfl)) HK ?_
      refine t_q (n := 10) 3 (.slice (some ⟨gd_, 0, none⟩) N N) rfl (by kernel_rfl) (by kernel_rfl) (fun _ _ _ h => h) (fun w' hk => (R_load (p := ⟨gt_, 1, none⟩) (by kernel_rfl) (by kernel_rfl) (by kernel_rfl) (hk.cellN (fun h_ => h_.elim (HV.sepB (a := 0) (b := 1) (by decide) rfl rfl) (HV.sepB (a := 0) (b := 2) (by decide) rfl rfl)) (HV.cell (i := 0) (j := 1) rfl rfl)))) HK ?_
      refine t_q (n := 9) 4 (.int .i64 w) rfl (by kernel_rfl) (by kernel_rfl) (fun _ _ _ h => h) (fun w' hk => (by kernel_rfl)) HK ?_
      refine t_q (n := 8) 5 (.pointer (some ⟨gt_, 0, none⟩)) rfl (by kernel_rfl) (by kernel_rfl) (fun _ _ _ h => h) (fun w' hk => (by kernel_rfl)) HK ?_
      refine t_q (n := 7) 6 (.pointer (some ⟨gt_, 0, none⟩)) rfl (by kernel_rfl) (by kernel_rfl) (fun _ _ _ h => h) (fun w' hk => (by kernel_rfl)) HK ?_
      refine t_q (n := 6) 7 (.pointer (some ⟨gt_, 2, none⟩)) rfl (by kernel_rfl) (by kernel_rfl) (fun _ _ _ h => h) (fun w' hk => (by kernel_rfl)) HK ?_
      refine t_q (n := 5) 8 (.slice (some ⟨gb_, 0, none⟩) N N) rfl (by kernel_rfl) (by kernel_rfl) (fun _ _ _ h => h) (fun w' hk => (R_load (p := ⟨gt_, 2, none⟩) (by kernel_rfl) (by kernel_rfl) (by kernel_rfl) (hk.cellN (fun h_ => h_.elim (HV.sepB (a := 0) (b := 1) (by decide) rfl rfl) (HV.sepB (a := 0) (b := 2) (by decide) rfl rfl)) (HV.cell (i := 0) (j := 2) rfl rfl)))) HK ?_
      refine t_q (n := 4) 9 (.int .i64 w) rfl (by kernel_rfl) (by kernel_rfl) (fun _ _ _ h => h) (fun w' hk => (by kernel_rfl)) HK ?_
      refine t_q (n := 3) 10 (.pointer (some ⟨gd_, w.toNat, none⟩)) rfl (by kernel_rfl) (by kernel_rfl) (fun _ _ _ h => h) (fun w' hk => (R_index1 (k := .i64) (g := gd_) (n := N) (c := N) (i := w) (by kernel_rfl) (by kernel_rfl) Try.underlying28 (by kernel_rfl) (by omega) (by omega))) HK ?_
      obtain ⟨W22, hrun_, H_, hk_⟩ := ex_kr (P := Try.prog) (ty := 0) (ps := "bfs.go:22") (af := #[{ on := 10, ground := Go.Ground.data }, { on := 0, ground := Go.Ground.phase }, { on := 1, ground := Go.Ground.phase }, { on := 2, ground := Go.Ground.phase }, { on := 3, ground := Go.Ground.phase }, { on := 4, ground := Go.Ground.phase }, { on := 5, ground := (Go.Ground.textOnly Go.Departure.lateStores) }, { on := 6, ground := (Go.Ground.textOnly Go.Departure.lateStoresUnsure) }, { on := 7, ground := (Go.Ground.textOnly Go.Departure.lateStoresUnsure) }, { on := 8, ground := Go.Ground.phase }, { on := 9, ground := (Go.Ground.textOnly Go.Departure.lateStores) }]) (gd := none) (t := 3) (x := (Go.Operand.tmp 40)) (y := (Go.Operand.const (Go.Value.int Go.IntKind.i64 (-1)))) (v := .int .i64 (-1)) HS 1 rfl (w.toNat) [.int .i64 (-1)] (by kernel_rfl) (by kernel_rfl) (by kernel_rfl) (by kernel_rfl) (one_ (by kernel_rfl)) (by rw [ci_len]; first | omega | (simp only [List.length_singleton]; omega))
      replace HK := HK.trans hk_ (fun _ h_ => .inl (.inl (row_own h_)))
      refine t_s (n := 2) 11 rfl (by kernel_rfl) (by kernel_rfl) hrun_ HK ?_
      clear hk_ hrun_
      obtain ⟨xs23, xs23_⟩ : ∃ z_ : List Int, z_ = (ds0).set w.toNat (-1) := ⟨_, rfl⟩
      replace HS : St W (owns [blk gc [.int .i64 0, .int .i64 0, .int .i64 0, .int .i64 0, .int .i64 0, .int .i64 0, .int .i64 k0] tc]) W22 [blk gt_ [.int .i64 v, .slice (some ⟨gd_, 0, none⟩) N N, .slice (some ⟨gb_, 0, none⟩) N N] 72, row (some ⟨gd_, 0, none⟩) N N (ci .i64 xs23) 3 1, row (some ⟨gb_, 0, none⟩) N N (ci .i64 bs0) 3 1, blk gc [.int .i64 0, .int .i64 0, .int .i64 0, .int .i64 0, .int .i64 0, .int .i64 0, .int .i64 k0] tc] := H_.cast_ (by rw [xs23_, ← ci_set]; rfl)
      clear H_
      have xs23l : xs23.length = N := by rw [xs23_, List.length_set]; first | done | omega
      refine t_q (n := 1) 12 (.pointer (some ⟨gb_, w.toNat, none⟩)) rfl (by kernel_rfl) (by kernel_rfl) (fun _ _ _ h => h) (fun w' hk => (R_index1 (k := .i64) (g := gb_) (n := N) (c := N) (i := w) (by kernel_rfl) (by kernel_rfl) Try.underlying28 (by kernel_rfl) (by omega) (by omega))) HK ?_
      obtain ⟨W24, hrun_, H_, hk_⟩ := ex_kr (P := Try.prog) (ty := 0) (ps := "bfs.go:22") (af := #[{ on := 12, ground := Go.Ground.data }, { on := 11, ground := Go.Ground.chain }, { on := 0, ground := Go.Ground.phase }, { on := 1, ground := Go.Ground.phase }, { on := 2, ground := Go.Ground.phase }, { on := 3, ground := Go.Ground.phase }, { on := 4, ground := Go.Ground.phase }, { on := 5, ground := Go.Ground.phase }, { on := 6, ground := Go.Ground.phase }, { on := 7, ground := Go.Ground.phase }, { on := 8, ground := Go.Ground.phase }, { on := 9, ground := Go.Ground.phase }, { on := 10, ground := Go.Ground.phase }, { on := 11, ground := Go.Ground.phase }]) (gd := none) (t := 3) (x := (Go.Operand.tmp 41)) (y := (Go.Operand.const (Go.Value.int Go.IntKind.i64 (-1)))) (v := .int .i64 (-1)) HS 2 rfl (w.toNat) [.int .i64 (-1)] (by kernel_rfl) (by kernel_rfl) (by kernel_rfl) (by kernel_rfl) (one_ (by kernel_rfl)) (by rw [ci_len]; first | omega | (simp only [List.length_singleton]; omega))
      replace HK := HK.trans hk_ (fun _ h_ => .inl (.inr (row_own h_)))
      refine t_s (n := 0) 13 rfl (by kernel_rfl) (by kernel_rfl) hrun_ HK ?_
      clear hk_ hrun_
      obtain ⟨xs25, xs25_⟩ : ∃ z_ : List Int, z_ = (bs0).set w.toNat (-1) := ⟨_, rfl⟩
      replace HS : St W (owns [blk gc [.int .i64 0, .int .i64 0, .int .i64 0, .int .i64 0, .int .i64 0, .int .i64 0, .int .i64 k0] tc]) W24 [blk gt_ [.int .i64 v, .slice (some ⟨gd_, 0, none⟩) N N, .slice (some ⟨gb_, 0, none⟩) N N] 72, row (some ⟨gd_, 0, none⟩) N N (ci .i64 xs23) 3 1, row (some ⟨gb_, 0, none⟩) N N (ci .i64 xs25) 3 1, blk gc [.int .i64 0, .int .i64 0, .int .i64 0, .int .i64 0, .int .i64 0, .int .i64 0, .int .i64 k0] tc] := H_.cast_ (by rw [xs25_, ← ci_set]; rfl)
      clear H_
      have xs25l : xs25.length = N := by rw [xs25_, List.length_set]; first | done | omega
      refine t_done (by kernel_rfl) ?_
      clear HV HK
      refine x_inb ?_
      refine x_then ?_
      refine wp_region_lit ?_
      refine ql (.int .i64 (w + 1)) (by kernel_rfl) (R_int (by kernel_rfl) (w64 (by omega))) ?_
      refine ql (.int .i64 (w + 1)) (by kernel_rfl) (by kernel_rfl) ?_
      refine wpList_nil ?_
      refine x_then ?_
      exact ⟨N - (w + 1).toNat, by omega, (fun k_ : Nat => List.getD ((.pointer (some ⟨g, 0, none⟩)) :: (.int .i64 v) :: (.pointer (some ⟨gc, 0, none⟩)) :: undef :: undef :: undef :: (.pointer none) :: (.int .i64 (N : Int)) :: (.pointer (some ⟨gt_, 0, none⟩)) :: (.int .i64 w) :: undef :: undef :: undef :: undef :: undef :: undef :: undef :: (.pointer (some ⟨g, 0, none⟩)) :: (.int .i64 (N : Int)) :: ((u2 19)) :: ((u2 20)) :: ((u2 21)) :: ((u2 22)) :: ((u2 23)) :: ((u2 24)) :: ((u2 25)) :: (.int .i64 (N : Int)) :: (.int .i64 (w + 1)) :: (.bool true) :: (.int .i64 w) :: (.pointer (some ⟨gt_, 0, none⟩)) :: (.pointer (some ⟨gt_, 0, none⟩)) :: (.pointer (some ⟨gt_, 1, none⟩)) :: (.slice (some ⟨gd_, 0, none⟩) N N) :: (.int .i64 w) :: (.pointer (some ⟨gt_, 0, none⟩)) :: (.pointer (some ⟨gt_, 0, none⟩)) :: (.pointer (some ⟨gt_, 2, none⟩)) :: (.slice (some ⟨gb_, 0, none⟩) N N) :: (.int .i64 w) :: (.pointer (some ⟨gd_, w.toNat, none⟩)) :: (.pointer (some ⟨gb_, w.toNat, none⟩)) :: (.int .i64 (w + 1)) :: undef :: undef :: undef :: undef :: undef :: undef :: undef :: undef :: undef :: undef :: undef :: undef :: undef :: undef :: undef :: undef :: undef :: undef :: undef :: undef :: undef :: undef :: undef :: undef :: undef :: undef :: undef :: undef :: undef :: undef :: undef :: undef :: undef :: undef :: undef :: undef :: undef :: undef :: undef :: undef :: undef :: undef :: undef :: undef :: undef :: undef :: undef :: undef :: undef :: undef :: undef :: undef :: undef :: undef :: undef :: undef :: undef :: undef :: undef :: undef :: undef :: undef :: undef :: undef :: undef :: undef :: undef :: undef :: undef :: undef :: undef :: undef :: undef :: undef :: undef :: undef :: undef :: undef :: undef :: undef :: undef :: undef :: undef :: undef :: undef :: undef :: undef :: undef :: undef :: undef :: undef :: undef :: undef :: undef :: undef :: undef :: undef :: undef :: undef :: undef :: undef :: undef :: undef :: undef :: undef :: undef :: undef :: undef :: undef :: undef :: undef :: undef :: undef :: undef :: undef :: []) k_ undef), w + 1, xs23, xs25, congrArg Fr (by kernel_rfl), rfl, by omega, by omega, fill_step w0 (by omega) hd0 xs23_, fill_step w0 (by omega) hb0 xs25_, by omega, by omega, HS⟩
    · skip
      refine ql (.bool false) (by kernel_rfl) (R_nbool (p := w < (N : Int)) (by kernel_rfl) (hc20)) ?_
      refine wpList_nil ?_
      refine x_then ?_
      refine wp_seq ?_
      refine wp_cond_false (by kernel_rfl) ?_
      refine wp_exit ?_
      refine x_thenE ?_
      refine x_thenE ?_
      refine x_hit ?_
      refine x_then ?_
      refine wp_seq ?_
      refine wp_seq ?_
      have he_ds0 : ds0 = List.replicate N (-1) := by rw [hd0, show w.toNat = N by omega]; simp
      have he_bs0 : bs0 = List.replicate N (-1) := by rw [hb0, show w.toNat = N by omega]; simp
      subst he_ds0
      subst he_bs0
      refine wp_region_lit ?_
      refine ql (.int .i64 v) (by kernel_rfl) (by kernel_rfl) ?_
      refine ql (.bool false) (by kernel_rfl) (R_nbool (p := v < (0 : Int)) (by kernel_rfl) (by omega)) ?_
      refine ql (.bool false) (by kernel_rfl) (by kernel_rfl) ?_
      refine ql (.int .i64 v) (by kernel_rfl) (by kernel_rfl) ?_
      refine ql (.int .i64 (N : Int)) (by kernel_rfl) (by kernel_rfl) ?_
      refine ql (.bool false) (by kernel_rfl) (R_nbool (p := v ≥ (N : Int)) (by kernel_rfl) (by omega)) ?_
      refine ql (.bool false) (by kernel_rfl) (by kernel_rfl) ?_
      refine wpList_nil ?_
      refine x_then ?_
      refine wp_cond_false (by kernel_rfl) ?_
      refine wp_skip ?_
      refine x_then ?_
      refine wp_seq ?_
      refine wp_region_lit ?_
      refine ql (.pointer (some ⟨gt_, 0, none⟩)) (by kernel_rfl) (by kernel_rfl) ?_
      refine ql (.pointer (some ⟨gt_, 0, none⟩)) (by kernel_rfl) (by kernel_rfl) ?_
      refine ql (.pointer (some ⟨gt_, 1, none⟩)) (by kernel_rfl) (by kernel_rfl) ?_
      refine ql (.slice (some ⟨gd_, 0, none⟩) N N) (by kernel_rfl) (R_load (p := ⟨gt_, 1, none⟩) (by kernel_rfl) (by kernel_rfl) (by kernel_rfl) (HS.cell (i := 0) (j := 1) rfl rfl)) ?_
      refine ql (.int .i64 v) (by kernel_rfl) (by kernel_rfl) ?_
      refine ql (.pointer (some ⟨gd_, v.toNat, none⟩)) (by kernel_rfl) (R_index1 (k := .i64) (g := gd_) (n := N) (c := N) (i := v) (by kernel_rfl) (by kernel_rfl) Try.underlying28 (by kernel_rfl) (by omega) (by omega)) ?_
      refine kr (v := .int .i64 0) HS 1 rfl (v.toNat) [.int .i64 0] (by kernel_rfl) (by kernel_rfl) (by kernel_rfl) (by kernel_rfl) (by kernel_rfl) (one_ (by kernel_rfl)) (by rw [ci_len]; first | omega | (simp only [List.length_singleton]; omega)) rfl ?_
      intro W26 H_
      obtain ⟨xs27, xs27_⟩ : ∃ z_ : List Int, z_ = ((List.replicate N (-1))).set v.toNat 0 := ⟨_, rfl⟩
      replace HS : St W (owns [blk gc [.int .i64 0, .int .i64 0, .int .i64 0, .int .i64 0, .int .i64 0, .int .i64 0, .int .i64 k0] tc]) W26 [blk gt_ [.int .i64 v, .slice (some ⟨gd_, 0, none⟩) N N, .slice (some ⟨gb_, 0, none⟩) N N] 72, row (some ⟨gd_, 0, none⟩) N N (ci .i64 xs27) 3 1, row (some ⟨gb_, 0, none⟩) N N (ci .i64 (List.replicate N (-1))) 3 1, blk gc [.int .i64 0, .int .i64 0, .int .i64 0, .int .i64 0, .int .i64 0, .int .i64 0, .int .i64 k0] tc] := H_.cast_ (by rw [xs27_, ← ci_set]; rfl)
      clear H_
      have xs27l : xs27.length = N := by rw [xs27_, List.length_set]; first | done | omega
      refine wpList_nil ?_
      refine x_then ?_
      refine wp_seq ?_
      refine wp_region_lit ?_
      refine kb HS [.slice none 0 0, .int .i64 0, .int .i64 0] 74 (fun g => .pointer (some ⟨g, 0, none⟩)) (by kernel_rfl) (by kernel_rfl) ?_
      intro g28 W29 H_
      replace HS : St W (owns [blk gc [.int .i64 0, .int .i64 0, .int .i64 0, .int .i64 0, .int .i64 0, .int .i64 0, .int .i64 k0] tc]) W29 [blk g28 [.slice none 0 0, .int .i64 0, .int .i64 0] 74, blk gt_ [.int .i64 v, .slice (some ⟨gd_, 0, none⟩) N N, .slice (some ⟨gb_, 0, none⟩) N N] 72, row (some ⟨gd_, 0, none⟩) N N (ci .i64 xs27) 3 1, row (some ⟨gb_, 0, none⟩) N N (ci .i64 (List.replicate N (-1))) 3 1, blk gc [.int .i64 0, .int .i64 0, .int .i64 0, .int .i64 0, .int .i64 0, .int .i64 0, .int .i64 k0] tc] := H_
      clear H_
      refine wpList_nil ?_
      refine x_then ?_
      refine wp_seq ?_
      replace HS : St W (owns [blk gc [.int .i64 0, .int .i64 0, .int .i64 0, .int .i64 0, .int .i64 0, .int .i64 0, .int .i64 k0] tc]) W29 [row none 0 0 (ci .i64 ([])) 3 1, blk g28 [.slice none 0 0, .int .i64 0, .int .i64 0] 74, blk gt_ [.int .i64 v, .slice (some ⟨gd_, 0, none⟩) N N, .slice (some ⟨gb_, 0, none⟩) N N] 72, row (some ⟨gd_, 0, none⟩) N N (ci .i64 xs27) 3 1, row (some ⟨gb_, 0, none⟩) N N (ci .i64 (List.replicate N (-1))) 3 1, blk gc [.int .i64 0, .int .i64 0, .int .i64 0, .int .i64 0, .int .i64 0, .int .i64 0, .int .i64 k0] tc] := (HS.nilRow 3 1).cast_ (by kernel_rfl)
      refine wp_region_lit ?_
      refine ql (.int .i64 v) (by kernel_rfl) (by kernel_rfl) ?_
      refine kl HS 1 [.int .i64 v] 3 1 (by kernel_rfl) (by kernel_rfl) rfl (by decide) ?_
      intro g30 W31 H_
      replace HS : St W (owns [blk gc [.int .i64 0, .int .i64 0, .int .i64 0, .int .i64 0, .int .i64 0, .int .i64 0, .int .i64 k0] tc]) W31 [row (some ⟨g30, 0, none⟩) 1 1 (ci .i64 ([v])) 3 1, row none 0 0 (ci .i64 ([])) 3 1, blk g28 [.slice none 0 0, .int .i64 0, .int .i64 0] 74, blk gt_ [.int .i64 v, .slice (some ⟨gd_, 0, none⟩) N N, .slice (some ⟨gb_, 0, none⟩) N N] 72, row (some ⟨gd_, 0, none⟩) N N (ci .i64 xs27) 3 1, row (some ⟨gb_, 0, none⟩) N N (ci .i64 (List.replicate N (-1))) 3 1, blk gc [.int .i64 0, .int .i64 0, .int .i64 0, .int .i64 0, .int .i64 0, .int .i64 0, .int .i64 k0] tc] := H_.cast_ (by kernel_rfl)
      clear H_
      refine qc (f := 51) (args := #[.pointer (some ⟨g28, 0, none⟩), .slice (some ⟨g30, 0, none⟩) 1 1]) (by kernel_rfl) (R_call #[.pointer (some ⟨g28, 0, none⟩), .slice (some ⟨g30, 0, none⟩) 1 1] Try.func51 (by kernel_rfl) (by kernel_rfl) (by kernel_rfl)) ?_
      replace HS : St W (owns [blk gc [.int .i64 0, .int .i64 0, .int .i64 0, .int .i64 0, .int .i64 0, .int .i64 0, .int .i64 k0] tc]) W31 [blk g28 [.slice none 0 0, .int .i64 0, .int .i64 0] 74, row none 0 0 (ci .i64 ([])) 3 1, row (some ⟨g30, 0, none⟩) 1 1 (ci .i64 ([v])) 3 1, blk gt_ [.int .i64 v, .slice (some ⟨gd_, 0, none⟩) N N, .slice (some ⟨gb_, 0, none⟩) N N] 72, row (some ⟨gd_, 0, none⟩) N N (ci .i64 xs27) 3 1, row (some ⟨gb_, 0, none⟩) N N (ci .i64 (List.replicate N (-1))) 3 1, blk gc [.int .i64 0, .int .i64 0, .int .i64 0, .int .i64 0, .int .i64 0, .int .i64 0, .int .i64 k0] tc] := HS.perm (perm_ [2, 1, 0, 3, 4, 5, 6] (by kernel_rfl) rfl)
      refine (qpush g28 74 [] _ _ 0 _ 0 0 ([]) ([]) ([v]) _ _ (St.focus (F := [blk g28 [.slice none 0 0, .int .i64 0, .int .i64 0] 74, row none 0 0 (ci .i64 ([])) 3 1, row (some ⟨g30, 0, none⟩) 1 1 (ci .i64 ([v])) 3 1]) HS) RQ.nil (by simp)).mono ?_
      rintro e W33 ⟨Ap32, cp32, fp32, np32, qp32, rfl, H_, hrp32⟩
      refine ⟨_, rfl, ?_⟩
      replace HS : St W (owns [blk gc [.int .i64 0, .int .i64 0, .int .i64 0, .int .i64 0, .int .i64 0, .int .i64 0, .int .i64 k0] tc]) W33 [blk g28 [.slice Ap32 qp32.length cp32, .int .i64 (fp32 : Int), .int .i64 (np32 : Int)] 74, row Ap32 qp32.length cp32 (ci .i64 qp32) 3 1, blk gt_ [.int .i64 v, .slice (some ⟨gd_, 0, none⟩) N N, .slice (some ⟨gb_, 0, none⟩) N N] 72, row (some ⟨gd_, 0, none⟩) N N (ci .i64 xs27) 3 1, row (some ⟨gb_, 0, none⟩) N N (ci .i64 (List.replicate N (-1))) 3 1, blk gc [.int .i64 0, .int .i64 0, .int .i64 0, .int .i64 0, .int .i64 0, .int .i64 0, .int .i64 k0] tc] := HS.join (F := [blk g28 [.slice none 0 0, .int .i64 0, .int .i64 0] 74, row none 0 0 (ci .i64 ([])) 3 1, row (some ⟨g30, 0, none⟩) 1 1 (ci .i64 ([v])) 3 1]) (G := [blk g28 [.slice Ap32 qp32.length cp32, .int .i64 (fp32 : Int), .int .i64 (np32 : Int)] 74, row Ap32 qp32.length cp32 (ci .i64 qp32) 3 1]) H_
      clear H_
      refine wpList_nil ?_
      refine x_then ?_
      refine wp_seq ?_
      refine wp_block ?_
      have hst := bq_start hF hv0 hv1 xs27_
      replace HS : St W (owns [blk gc [.int .i64 0, .int .i64 0, .int .i64 0, .int .i64 0, .int .i64 0, .int .i64 0, .int .i64 k0] tc]) W33 [blk g28 [.slice Ap32 qp32.length cp32, .int .i64 (fp32 : Int), .int .i64 (np32 : Int)] 74, row Ap32 qp32.length cp32 (ci .i64 qp32) 3 1, blk gt_ [.int .i64 v, .slice (some ⟨gd_, 0, none⟩) N N, .slice (some ⟨gb_, 0, none⟩) N N] 72, row (some ⟨gd_, 0, none⟩) N N (ci .i64 xs27) 3 1, row (some ⟨gb_, 0, none⟩) N N (ci .i64 (List.replicate N (-1))) 3 1, blk gc [.int .i64 0, .int .i64 0, .int .i64 0, .int .i64 0, .int .i64 0, .int .i64 0, .int .i64 (k0 + ((0 : Nat) : Int))] tc] := HS.cast_ (by rw [show (k0 + ((0 : Nat) : Int)) = k0 by omega])
      refine wp_loop_ghost (fun kq a' w' => ∃ (J34 : Nat → Value) (Aq : Option Addr) (cq : Nat) (fq : Nat) (nq : Nat) (rs : List Int) (xs : List Int) (ds : List Int) (bs : List Int) (G : List Int) (kc : Nat) , a' = Fr ((.pointer (some ⟨g, 0, none⟩)) :: (.int .i64 v) :: (.pointer (some ⟨gc, 0, none⟩)) :: undef :: undef :: undef :: (.pointer none) :: (.int .i64 (N : Int)) :: (.pointer (some ⟨gt_, 0, none⟩)) :: ((J17 9)) :: (.pointer (some ⟨g28, 0, none⟩)) :: ((J34 11)) :: ((J34 12)) :: undef :: ((J34 14)) :: ((J34 15)) :: ((J34 16)) :: (.pointer (some ⟨g, 0, none⟩)) :: (.int .i64 (N : Int)) :: ((u2 19)) :: ((u2 20)) :: ((u2 21)) :: ((u2 22)) :: ((u2 23)) :: ((u2 24)) :: ((u2 25)) :: (.int .i64 (N : Int)) :: (.int .i64 w) :: (.bool false) :: ((J17 29)) :: ((J17 30)) :: ((J17 31)) :: ((J17 32)) :: ((J17 33)) :: ((J17 34)) :: ((J17 35)) :: ((J17 36)) :: ((J17 37)) :: ((J17 38)) :: ((J17 39)) :: ((J17 40)) :: ((J17 41)) :: ((J17 42)) :: (.int .i64 v) :: (.bool false) :: (.bool false) :: (.int .i64 v) :: (.int .i64 (N : Int)) :: (.bool false) :: (.bool false) :: undef :: (.pointer (some ⟨gt_, 0, none⟩)) :: (.pointer (some ⟨gt_, 0, none⟩)) :: (.pointer (some ⟨gt_, 1, none⟩)) :: (.slice (some ⟨gd_, 0, none⟩) N N) :: (.int .i64 v) :: (.pointer (some ⟨gd_, v.toNat, none⟩)) :: (.int .i64 v) :: (.slice (some ⟨g30, 0, none⟩) 1 1) :: (.tuple #[]) :: ((J34 60)) :: ((J34 61)) :: ((J34 62)) :: ((J34 63)) :: ((J34 64)) :: ((J34 65)) :: ((J34 66)) :: ((J34 67)) :: ((J34 68)) :: ((J34 69)) :: ((J34 70)) :: ((J34 71)) :: ((J34 72)) :: ((J34 73)) :: ((J34 74)) :: ((J34 75)) :: ((J34 76)) :: ((J34 77)) :: ((J34 78)) :: ((J34 79)) :: ((J34 80)) :: ((J34 81)) :: ((J34 82)) :: ((J34 83)) :: ((J34 84)) :: ((J34 85)) :: ((J34 86)) :: ((J34 87)) :: ((J34 88)) :: ((J34 89)) :: ((J34 90)) :: ((J34 91)) :: ((J34 92)) :: ((J34 93)) :: ((J34 94)) :: ((J34 95)) :: ((J34 96)) :: ((J34 97)) :: ((J34 98)) :: ((J34 99)) :: ((J34 100)) :: ((J34 101)) :: ((J34 102)) :: ((J34 103)) :: ((J34 104)) :: ((J34 105)) :: ((J34 106)) :: ((J34 107)) :: ((J34 108)) :: ((J34 109)) :: ((J34 110)) :: ((J34 111)) :: ((J34 112)) :: ((J34 113)) :: ((J34 114)) :: ((J34 115)) :: ((J34 116)) :: ((J34 117)) :: ((J34 118)) :: ((J34 119)) :: ((J34 120)) :: ((J34 121)) :: ((J34 122)) :: ((J34 123)) :: ((J34 124)) :: ((J34 125)) :: ((J34 126)) :: ((J34 127)) :: ((J34 128)) :: ((J34 129)) :: ((J34 130)) :: ((J34 131)) :: ((J34 132)) :: ((J34 133)) :: ((J34 134)) :: ((J34 135)) :: ((J34 136)) :: ((J34 137)) :: ((J34 138)) :: ((J34 139)) :: ((J34 140)) :: ((J34 141)) :: ((J34 142)) :: ((J34 143)) :: ((J34 144)) :: ((J34 145)) :: ((J34 146)) :: ((J34 147)) :: ((J34 148)) :: ((J34 149)) :: ((J34 150)) :: ((J34 151)) :: ((J34 152)) :: ((J34 153)) :: ((J34 154)) :: ((J34 155)) :: ((J34 156)) :: undef :: []) ∧ kq = ((xs).length + ng ds) ∧ (BI N arcs v G ds bs) ∧ (QI N arcs G ds xs kc) ∧ (RQ rs fq nq xs) ∧ ((ds).length = N) ∧ ((bs).length = N) ∧ (kc ≤ N + arcs.length) ∧ St W (owns [blk gc [.int .i64 0, .int .i64 0, .int .i64 0, .int .i64 0, .int .i64 0, .int .i64 0, .int .i64 k0] tc]) w' [blk g28 [.slice Aq rs.length cq, .int .i64 (fq : Int), .int .i64 (nq : Int)] 74, row Aq rs.length cq (ci .i64 rs) 3 1, blk gt_ [.int .i64 v, .slice (some ⟨gd_, 0, none⟩) N N, .slice (some ⟨gb_, 0, none⟩) N N] 72, row (some ⟨gd_, 0, none⟩) N N (ci .i64 ds) 3 1, row (some ⟨gb_, 0, none⟩) N N (ci .i64 bs) 3 1, blk gc [.int .i64 0, .int .i64 0, .int .i64 0, .int .i64 0, .int .i64 0, .int .i64 0, .int .i64 (k0 + ((kc : Nat) : Int))] tc]) (([v]).length + ng xs27) ⟨(fun k_ : Nat => List.getD ((.pointer (some ⟨g, 0, none⟩)) :: (.int .i64 v) :: (.pointer (some ⟨gc, 0, none⟩)) :: undef :: undef :: undef :: (.pointer none) :: (.int .i64 (N : Int)) :: (.pointer (some ⟨gt_, 0, none⟩)) :: ((J17 9)) :: (.pointer (some ⟨g28, 0, none⟩)) :: undef :: undef :: undef :: undef :: undef :: undef :: (.pointer (some ⟨g, 0, none⟩)) :: (.int .i64 (N : Int)) :: ((u2 19)) :: ((u2 20)) :: ((u2 21)) :: ((u2 22)) :: ((u2 23)) :: ((u2 24)) :: ((u2 25)) :: (.int .i64 (N : Int)) :: (.int .i64 w) :: (.bool false) :: ((J17 29)) :: ((J17 30)) :: ((J17 31)) :: ((J17 32)) :: ((J17 33)) :: ((J17 34)) :: ((J17 35)) :: ((J17 36)) :: ((J17 37)) :: ((J17 38)) :: ((J17 39)) :: ((J17 40)) :: ((J17 41)) :: ((J17 42)) :: (.int .i64 v) :: (.bool false) :: (.bool false) :: (.int .i64 v) :: (.int .i64 (N : Int)) :: (.bool false) :: (.bool false) :: undef :: (.pointer (some ⟨gt_, 0, none⟩)) :: (.pointer (some ⟨gt_, 0, none⟩)) :: (.pointer (some ⟨gt_, 1, none⟩)) :: (.slice (some ⟨gd_, 0, none⟩) N N) :: (.int .i64 v) :: (.pointer (some ⟨gd_, v.toNat, none⟩)) :: (.int .i64 v) :: (.slice (some ⟨g30, 0, none⟩) 1 1) :: (.tuple #[]) :: undef :: undef :: undef :: undef :: undef :: undef :: undef :: undef :: undef :: undef :: undef :: undef :: undef :: undef :: undef :: undef :: undef :: undef :: undef :: undef :: undef :: undef :: undef :: undef :: undef :: undef :: undef :: undef :: undef :: undef :: undef :: undef :: undef :: undef :: undef :: undef :: undef :: undef :: undef :: undef :: undef :: undef :: undef :: undef :: undef :: undef :: undef :: undef :: undef :: undef :: undef :: undef :: undef :: undef :: undef :: undef :: undef :: undef :: undef :: undef :: undef :: undef :: undef :: undef :: undef :: undef :: undef :: undef :: undef :: undef :: undef :: undef :: undef :: undef :: undef :: undef :: undef :: undef :: undef :: undef :: undef :: undef :: undef :: undef :: undef :: undef :: undef :: undef :: undef :: undef :: undef :: undef :: undef :: undef :: undef :: undef :: undef :: undef :: []) k_ undef), Ap32, cp32, fp32, np32, qp32, [v], xs27, (List.replicate N (-1)), [], 0, congrArg Fr (by kernel_rfl), rfl, hst.1, hst.2, hrp32, by omega, by omega, by omega, HS⟩ ?_
      clear HS
      intro kq35 a' W36 hrel
      obtain ⟨J34, Aq, cq, fq, nq, rs, xs, ds, bs, G, kc, rfl, hk, hB, hQ, hr, hdl, hbl, hkb, HS⟩ := hrel
      have hxl0 := hr.len
      refine wp_seq ?_
      refine wp_seq ?_
      refine wp_region_lit ?_
      refine qc (f := 52) (args := #[.pointer (some ⟨g28, 0, none⟩)]) (by kernel_rfl) (R_call #[.pointer (some ⟨g28, 0, none⟩)] Try.func52 (by kernel_rfl) (by kernel_rfl) (by kernel_rfl)) ?_
      refine (qlen g28 nq _ (HS.cell (i := 0) (j := 2) rfl rfl)).mono ?_
      rintro e W37 ⟨rfl, H_⟩
      refine ⟨_, rfl, ?_⟩
      replace HS : St W (owns [blk gc [.int .i64 0, .int .i64 0, .int .i64 0, .int .i64 0, .int .i64 0, .int .i64 0, .int .i64 k0] tc]) W37 [blk g28 [.slice Aq rs.length cq, .int .i64 (fq : Int), .int .i64 (nq : Int)] 74, row Aq rs.length cq (ci .i64 rs) 3 1, blk gt_ [.int .i64 v, .slice (some ⟨gd_, 0, none⟩) N N, .slice (some ⟨gb_, 0, none⟩) N N] 72, row (some ⟨gd_, 0, none⟩) N N (ci .i64 ds) 3 1, row (some ⟨gb_, 0, none⟩) N N (ci .i64 bs) 3 1, blk gc [.int .i64 0, .int .i64 0, .int .i64 0, .int .i64 0, .int .i64 0, .int .i64 0, .int .i64 (k0 + ((kc : Nat) : Int))] tc] := HS.join (F := []) (G := []) H_
      clear H_
      by_cases hc38 : (nq : Int) > (0 : Int)
      · skip
        refine ql (.bool true) (by kernel_rfl) (R_bool (p := (nq : Int) > (0 : Int)) (by kernel_rfl) (hc38)) ?_
        refine wpList_nil ?_
        refine x_then ?_
        refine wp_cond_true (by kernel_rfl) ?_
        refine wp_skip ?_
        refine x_then ?_
        refine wp_block ?_
        refine wp_seq ?_
        refine wp_region_lit ?_
        refine qc (f := 53) (args := #[.pointer (some ⟨g28, 0, none⟩)]) (by kernel_rfl) (R_call #[.pointer (some ⟨g28, 0, none⟩)] Try.func53 (by kernel_rfl) (by kernel_rfl) (by kernel_rfl)) ?_
        have hxl := hr.len
        have hj := qj_start hQ (by omega)
        have hur := hj.ur
        refine (qpop_some g28 74 [] _ _ _ _ rs xs _ _ (St.focus (F := [blk g28 [.slice Aq rs.length cq, .int .i64 (fq : Int), .int .i64 (nq : Int)] 74, row Aq rs.length cq (ci .i64 rs) 3 1]) HS) hr (by omega)).mono ?_
        rintro e W39 ⟨Ab, cb, fb, qb, rfl, H_, hrb⟩
        refine ⟨_, rfl, ?_⟩
        replace HS : St W (owns [blk gc [.int .i64 0, .int .i64 0, .int .i64 0, .int .i64 0, .int .i64 0, .int .i64 0, .int .i64 k0] tc]) W39 [blk g28 [.slice Ab qb.length cb, .int .i64 (fb : Int), .int .i64 ((nq - 1 : Nat) : Int)] 74, row Ab qb.length cb (ci .i64 qb) 3 1, blk gt_ [.int .i64 v, .slice (some ⟨gd_, 0, none⟩) N N, .slice (some ⟨gb_, 0, none⟩) N N] 72, row (some ⟨gd_, 0, none⟩) N N (ci .i64 ds) 3 1, row (some ⟨gb_, 0, none⟩) N N (ci .i64 bs) 3 1, blk gc [.int .i64 0, .int .i64 0, .int .i64 0, .int .i64 0, .int .i64 0, .int .i64 0, .int .i64 (k0 + ((kc : Nat) : Int))] tc] := HS.join (F := [blk g28 [.slice Aq rs.length cq, .int .i64 (fq : Int), .int .i64 (nq : Int)] 74, row Aq rs.length cq (ci .i64 rs) 3 1]) (G := [blk g28 [.slice Ab qb.length cb, .int .i64 (fb : Int), .int .i64 ((nq - 1 : Nat) : Int)] 74, row Ab qb.length cb (ci .i64 qb) 3 1]) H_
        clear H_
        refine ql (.tuple #[.int .i64 (rdI xs 0), .bool true]) (by kernel_rfl) (by kernel_rfl) ?_
        refine ql (.int .i64 (rdI xs 0)) (by kernel_rfl) (by kernel_rfl) ?_
        refine ql (.bool true) (by kernel_rfl) (by kernel_rfl) ?_
        refine ql (.int .i64 (rdI xs 0)) (by kernel_rfl) (by kernel_rfl) ?_
        refine ql (.bool true) (by kernel_rfl) (by kernel_rfl) ?_
        refine wpList_nil ?_
        refine x_then ?_
        refine wp_seq ?_
        refine wp_region_lit ?_
        refine ql (.pointer (some ⟨gc, 0, none⟩)) (by kernel_rfl) (by kernel_rfl) ?_
        refine qc (f := 54) (args := #[.pointer (some ⟨gc, 0, none⟩), .int .i64 6, .int .i64 1]) (by kernel_rfl) (R_call #[.pointer (some ⟨gc, 0, none⟩), .int .i64 6, .int .i64 1] Try.func54 (by kernel_rfl) (by kernel_rfl) (by kernel_rfl)) ?_
        replace HS : St W (owns [blk gc [.int .i64 0, .int .i64 0, .int .i64 0, .int .i64 0, .int .i64 0, .int .i64 0, .int .i64 k0] tc]) W39 [blk gc [.int .i64 0, .int .i64 0, .int .i64 0, .int .i64 0, .int .i64 0, .int .i64 0, .int .i64 (k0 + ((kc : Nat) : Int))] tc, blk g28 [.slice Ab qb.length cb, .int .i64 (fb : Int), .int .i64 ((nq - 1 : Nat) : Int)] 74, row Ab qb.length cb (ci .i64 qb) 3 1, blk gt_ [.int .i64 v, .slice (some ⟨gd_, 0, none⟩) N N, .slice (some ⟨gb_, 0, none⟩) N N] 72, row (some ⟨gd_, 0, none⟩) N N (ci .i64 ds) 3 1, row (some ⟨gb_, 0, none⟩) N N (ci .i64 bs) 3 1] := HS.perm (perm_ [5, 0, 1, 2, 3, 4] (by kernel_rfl) rfl)
        refine (cadd_blk gc tc (k0 + ((kc : Nat) : Int)) _ _ (St.focus (F := [blk gc [.int .i64 0, .int .i64 0, .int .i64 0, .int .i64 0, .int .i64 0, .int .i64 0, .int .i64 (k0 + ((kc : Nat) : Int))] tc]) HS) (by omega) (by omega)).mono ?_
        rintro e W40 ⟨rfl, H_⟩
        refine ⟨_, rfl, ?_⟩
        replace HS : St W (owns [blk gc [.int .i64 0, .int .i64 0, .int .i64 0, .int .i64 0, .int .i64 0, .int .i64 0, .int .i64 k0] tc]) W40 [blk gc [.int .i64 0, .int .i64 0, .int .i64 0, .int .i64 0, .int .i64 0, .int .i64 0, .int .i64 (k0 + ((kc : Nat) : Int) + 1)] tc, blk g28 [.slice Ab qb.length cb, .int .i64 (fb : Int), .int .i64 ((nq - 1 : Nat) : Int)] 74, row Ab qb.length cb (ci .i64 qb) 3 1, blk gt_ [.int .i64 v, .slice (some ⟨gd_, 0, none⟩) N N, .slice (some ⟨gb_, 0, none⟩) N N] 72, row (some ⟨gd_, 0, none⟩) N N (ci .i64 ds) 3 1, row (some ⟨gb_, 0, none⟩) N N (ci .i64 bs) 3 1] := HS.join (F := [blk gc [.int .i64 0, .int .i64 0, .int .i64 0, .int .i64 0, .int .i64 0, .int .i64 0, .int .i64 (k0 + ((kc : Nat) : Int))] tc]) (G := [blk gc [.int .i64 0, .int .i64 0, .int .i64 0, .int .i64 0, .int .i64 0, .int .i64 0, .int .i64 (k0 + ((kc : Nat) : Int) + 1)] tc]) H_
        clear H_
        have hk1 : k0 + ((kc : Nat) : Int) + 1 = k0 + (((kc + 1) : Nat) : Int) := by omega
        rw [hk1] at HS
        clear hk1
        refine wpList_nil ?_
        refine x_then ?_
        refine wp_seq ?_
        refine wp_region_lit ?_
        refine ql (.pointer (some ⟨g, 0, none⟩)) (by kernel_rfl) (by kernel_rfl) ?_
        refine ql (.int .i64 (rdI xs 0)) (by kernel_rfl) (by kernel_rfl) ?_
        refine qc (f := 19) (args := #[.pointer (some ⟨g, 0, none⟩), .int .i64 (rdI xs 0)]) (by kernel_rfl) (R_call #[.pointer (some ⟨g, 0, none⟩), .int .i64 (rdI xs 0)] Try.func19 (by kernel_rfl) (by kernel_rfl) (by kernel_rfl)) ?_
        refine (out_yes g N arcs _ (hG.below (below_gc hB0 HS hgc)) (rdI xs 0) (by omega) (by omega)).mono ?_
        rintro e W43 ⟨A41, c42, rfl, H_⟩
        refine ⟨_, rfl, ?_⟩
        replace HS : St W (owns [blk gc [.int .i64 0, .int .i64 0, .int .i64 0, .int .i64 0, .int .i64 0, .int .i64 0, .int .i64 k0] tc]) W43 [row A41 ((idxs (keys false arcs) (rdI xs 0)).length) c42 (ci .i64 (idxs (keys false arcs) (rdI xs 0))) 3 1, blk gc [.int .i64 0, .int .i64 0, .int .i64 0, .int .i64 0, .int .i64 0, .int .i64 0, .int .i64 (k0 + (((kc + 1) : Nat) : Int))] tc, blk g28 [.slice Ab qb.length cb, .int .i64 (fb : Int), .int .i64 ((nq - 1 : Nat) : Int)] 74, row Ab qb.length cb (ci .i64 qb) 3 1, blk gt_ [.int .i64 v, .slice (some ⟨gd_, 0, none⟩) N N, .slice (some ⟨gb_, 0, none⟩) N N] 72, row (some ⟨gd_, 0, none⟩) N N (ci .i64 ds) 3 1, row (some ⟨gb_, 0, none⟩) N N (ci .i64 bs) 3 1] := HS.join (F := []) (G := [row A41 ((idxs (keys false arcs) (rdI xs 0)).length) c42 (ci .i64 (idxs (keys false arcs) (rdI xs 0))) 3 1]) H_
        clear H_
        refine ql (.int .i64 ((idxs (keys false arcs) (rdI xs 0)).length : Int)) (by kernel_rfl) (by kernel_rfl) ?_
        refine ql (.int .i64 0) (by kernel_rfl) (by kernel_rfl) ?_
        refine wpList_nil ?_
        refine x_then ?_
        refine wp_block ?_
        replace HS : St W (owns [blk gc [.int .i64 0, .int .i64 0, .int .i64 0, .int .i64 0, .int .i64 0, .int .i64 0, .int .i64 k0] tc]) W43 [row A41 ((idxs (keys false arcs) (rdI xs 0)).length) c42 (ci .i64 (idxs (keys false arcs) (rdI xs 0))) 3 1, blk g28 [.slice Ab qb.length cb, .int .i64 (fb : Int), .int .i64 ((nq - 1 : Nat) : Int)] 74, row Ab qb.length cb (ci .i64 qb) 3 1, blk gt_ [.int .i64 v, .slice (some ⟨gd_, 0, none⟩) N N, .slice (some ⟨gb_, 0, none⟩) N N] 72, row (some ⟨gd_, 0, none⟩) N N (ci .i64 ds) 3 1, row (some ⟨gb_, 0, none⟩) N N (ci .i64 bs) 3 1, blk gc [.int .i64 0, .int .i64 0, .int .i64 0, .int .i64 0, .int .i64 0, .int .i64 0, .int .i64 (k0 + (((kc + 1) : Nat) : Int))] tc] := HS.perm (perm_ [0, 2, 3, 4, 5, 6, 1] (by kernel_rfl) rfl)
        have hiu := idxs_le false arcs (rdI xs 0)
        refine wp_loop_ghost (fun kq a' w' => ∃ (J44 : Nat → Value) (q : Int) (A2 : Option Addr) (c2 : Nat) (f2 : Nat) (n2 : Nat) (q2 : List Int) (xs2 : List Int) (ds2 : List Int) (bs2 : List Int) (G2 : List Int) (k2 : Nat) , a' = Fr ((.pointer (some ⟨g, 0, none⟩)) :: (.int .i64 v) :: (.pointer (some ⟨gc, 0, none⟩)) :: undef :: undef :: undef :: (.pointer none) :: (.int .i64 (N : Int)) :: (.pointer (some ⟨gt_, 0, none⟩)) :: ((J17 9)) :: (.pointer (some ⟨g28, 0, none⟩)) :: (.int .i64 (rdI xs 0)) :: (.bool true) :: undef :: ((J44 14)) :: ((J44 15)) :: ((J44 16)) :: (.pointer (some ⟨g, 0, none⟩)) :: (.int .i64 (N : Int)) :: ((u2 19)) :: ((u2 20)) :: ((u2 21)) :: ((u2 22)) :: ((u2 23)) :: ((u2 24)) :: ((u2 25)) :: (.int .i64 (N : Int)) :: (.int .i64 w) :: (.bool false) :: ((J17 29)) :: ((J17 30)) :: ((J17 31)) :: ((J17 32)) :: ((J17 33)) :: ((J17 34)) :: ((J17 35)) :: ((J17 36)) :: ((J17 37)) :: ((J17 38)) :: ((J17 39)) :: ((J17 40)) :: ((J17 41)) :: ((J17 42)) :: (.int .i64 v) :: (.bool false) :: (.bool false) :: (.int .i64 v) :: (.int .i64 (N : Int)) :: (.bool false) :: (.bool false) :: undef :: (.pointer (some ⟨gt_, 0, none⟩)) :: (.pointer (some ⟨gt_, 0, none⟩)) :: (.pointer (some ⟨gt_, 1, none⟩)) :: (.slice (some ⟨gd_, 0, none⟩) N N) :: (.int .i64 v) :: (.pointer (some ⟨gd_, v.toNat, none⟩)) :: (.int .i64 v) :: (.slice (some ⟨g30, 0, none⟩) 1 1) :: (.tuple #[]) :: (.int .i64 (nq : Int)) :: (.bool true) :: (.tuple #[.int .i64 (rdI xs 0), .bool true]) :: (.tuple #[.int .i64 (rdI xs 0), .bool true]) :: (.int .i64 (rdI xs 0)) :: (.bool true) :: (.pointer (some ⟨gc, 0, none⟩)) :: (.tuple #[]) :: (.pointer (some ⟨g, 0, none⟩)) :: (.int .i64 (rdI xs 0)) :: (.slice A41 ((idxs (keys false arcs) (rdI xs 0)).length) c42) :: (.int .i64 ((idxs (keys false arcs) (rdI xs 0)).length : Int)) :: (.int .i64 q) :: ((J44 73)) :: ((J44 74)) :: ((J44 75)) :: ((J44 76)) :: ((J44 77)) :: ((J44 78)) :: ((J44 79)) :: ((J44 80)) :: ((J44 81)) :: ((J44 82)) :: ((J44 83)) :: ((J44 84)) :: ((J44 85)) :: ((J44 86)) :: ((J44 87)) :: ((J44 88)) :: ((J44 89)) :: ((J44 90)) :: ((J44 91)) :: ((J44 92)) :: ((J44 93)) :: ((J44 94)) :: ((J44 95)) :: ((J44 96)) :: ((J44 97)) :: ((J44 98)) :: ((J44 99)) :: ((J44 100)) :: ((J44 101)) :: ((J44 102)) :: ((J44 103)) :: ((J44 104)) :: ((J44 105)) :: ((J44 106)) :: ((J44 107)) :: ((J44 108)) :: ((J44 109)) :: ((J44 110)) :: ((J44 111)) :: ((J44 112)) :: ((J44 113)) :: ((J44 114)) :: ((J44 115)) :: ((J44 116)) :: ((J44 117)) :: ((J44 118)) :: ((J44 119)) :: ((J44 120)) :: ((J44 121)) :: ((J44 122)) :: ((J44 123)) :: ((J44 124)) :: ((J44 125)) :: ((J44 126)) :: ((J44 127)) :: ((J44 128)) :: ((J44 129)) :: ((J44 130)) :: ((J44 131)) :: ((J44 132)) :: ((J44 133)) :: ((J44 134)) :: ((J44 135)) :: ((J44 136)) :: ((J44 137)) :: ((J44 138)) :: ((J44 139)) :: ((J44 140)) :: ((J44 141)) :: ((J44 142)) :: ((J44 143)) :: ((J44 144)) :: ((J44 145)) :: ((J44 146)) :: ((J44 147)) :: ((J44 148)) :: ((J44 149)) :: ((J44 150)) :: ((J44 151)) :: ((J44 152)) :: ((J44 153)) :: ((J44 154)) :: ((J44 155)) :: ((J44 156)) :: undef :: []) ∧ kq = ((idxs (keys false arcs) (rdI xs 0)).length - (q).toNat) ∧ (0 ≤ q) ∧ (q ≤ (idxs (keys false arcs) (rdI xs 0)).length) ∧ (BI N arcs v G2 ds2 bs2) ∧ (QJ N arcs (rdI xs 0) (q).toNat G2 ds2 xs2 k2) ∧ (RQ q2 f2 n2 xs2) ∧ ((xs2).length + ng ds2 = xs.length - 1 + ng ds) ∧ ((ds2).length = N) ∧ ((bs2).length = N) ∧ (k2 ≤ N + arcs.length) ∧ St W (owns [blk gc [.int .i64 0, .int .i64 0, .int .i64 0, .int .i64 0, .int .i64 0, .int .i64 0, .int .i64 k0] tc]) w' [row A41 ((idxs (keys false arcs) (rdI xs 0)).length) c42 (ci .i64 (idxs (keys false arcs) (rdI xs 0))) 3 1, blk g28 [.slice A2 q2.length c2, .int .i64 (f2 : Int), .int .i64 (n2 : Int)] 74, row A2 q2.length c2 (ci .i64 q2) 3 1, blk gt_ [.int .i64 v, .slice (some ⟨gd_, 0, none⟩) N N, .slice (some ⟨gb_, 0, none⟩) N N] 72, row (some ⟨gd_, 0, none⟩) N N (ci .i64 ds2) 3 1, row (some ⟨gb_, 0, none⟩) N N (ci .i64 bs2) 3 1, blk gc [.int .i64 0, .int .i64 0, .int .i64 0, .int .i64 0, .int .i64 0, .int .i64 0, .int .i64 (k0 + ((k2 : Nat) : Int))] tc]) ((idxs (keys false arcs) (rdI xs 0)).length - ((0 : Int)).toNat) ⟨(fun k_ : Nat => List.getD ((.pointer (some ⟨g, 0, none⟩)) :: (.int .i64 v) :: (.pointer (some ⟨gc, 0, none⟩)) :: undef :: undef :: undef :: (.pointer none) :: (.int .i64 (N : Int)) :: (.pointer (some ⟨gt_, 0, none⟩)) :: ((J17 9)) :: (.pointer (some ⟨g28, 0, none⟩)) :: (.int .i64 (rdI xs 0)) :: (.bool true) :: undef :: ((J34 14)) :: ((J34 15)) :: ((J34 16)) :: (.pointer (some ⟨g, 0, none⟩)) :: (.int .i64 (N : Int)) :: ((u2 19)) :: ((u2 20)) :: ((u2 21)) :: ((u2 22)) :: ((u2 23)) :: ((u2 24)) :: ((u2 25)) :: (.int .i64 (N : Int)) :: (.int .i64 w) :: (.bool false) :: ((J17 29)) :: ((J17 30)) :: ((J17 31)) :: ((J17 32)) :: ((J17 33)) :: ((J17 34)) :: ((J17 35)) :: ((J17 36)) :: ((J17 37)) :: ((J17 38)) :: ((J17 39)) :: ((J17 40)) :: ((J17 41)) :: ((J17 42)) :: (.int .i64 v) :: (.bool false) :: (.bool false) :: (.int .i64 v) :: (.int .i64 (N : Int)) :: (.bool false) :: (.bool false) :: undef :: (.pointer (some ⟨gt_, 0, none⟩)) :: (.pointer (some ⟨gt_, 0, none⟩)) :: (.pointer (some ⟨gt_, 1, none⟩)) :: (.slice (some ⟨gd_, 0, none⟩) N N) :: (.int .i64 v) :: (.pointer (some ⟨gd_, v.toNat, none⟩)) :: (.int .i64 v) :: (.slice (some ⟨g30, 0, none⟩) 1 1) :: (.tuple #[]) :: (.int .i64 (nq : Int)) :: (.bool true) :: (.tuple #[.int .i64 (rdI xs 0), .bool true]) :: (.tuple #[.int .i64 (rdI xs 0), .bool true]) :: (.int .i64 (rdI xs 0)) :: (.bool true) :: (.pointer (some ⟨gc, 0, none⟩)) :: (.tuple #[]) :: (.pointer (some ⟨g, 0, none⟩)) :: (.int .i64 (rdI xs 0)) :: (.slice A41 ((idxs (keys false arcs) (rdI xs 0)).length) c42) :: (.int .i64 ((idxs (keys false arcs) (rdI xs 0)).length : Int)) :: (.int .i64 0) :: ((J34 73)) :: ((J34 74)) :: ((J34 75)) :: ((J34 76)) :: ((J34 77)) :: ((J34 78)) :: ((J34 79)) :: ((J34 80)) :: ((J34 81)) :: ((J34 82)) :: ((J34 83)) :: ((J34 84)) :: ((J34 85)) :: ((J34 86)) :: ((J34 87)) :: ((J34 88)) :: ((J34 89)) :: ((J34 90)) :: ((J34 91)) :: ((J34 92)) :: ((J34 93)) :: ((J34 94)) :: ((J34 95)) :: ((J34 96)) :: ((J34 97)) :: ((J34 98)) :: ((J34 99)) :: ((J34 100)) :: ((J34 101)) :: ((J34 102)) :: ((J34 103)) :: ((J34 104)) :: ((J34 105)) :: ((J34 106)) :: ((J34 107)) :: ((J34 108)) :: ((J34 109)) :: ((J34 110)) :: ((J34 111)) :: ((J34 112)) :: ((J34 113)) :: ((J34 114)) :: ((J34 115)) :: ((J34 116)) :: ((J34 117)) :: ((J34 118)) :: ((J34 119)) :: ((J34 120)) :: ((J34 121)) :: ((J34 122)) :: ((J34 123)) :: ((J34 124)) :: ((J34 125)) :: ((J34 126)) :: ((J34 127)) :: ((J34 128)) :: ((J34 129)) :: ((J34 130)) :: ((J34 131)) :: ((J34 132)) :: ((J34 133)) :: ((J34 134)) :: ((J34 135)) :: ((J34 136)) :: ((J34 137)) :: ((J34 138)) :: ((J34 139)) :: ((J34 140)) :: ((J34 141)) :: ((J34 142)) :: ((J34 143)) :: ((J34 144)) :: ((J34 145)) :: ((J34 146)) :: ((J34 147)) :: ((J34 148)) :: ((J34 149)) :: ((J34 150)) :: ((J34 151)) :: ((J34 152)) :: ((J34 153)) :: ((J34 154)) :: ((J34 155)) :: ((J34 156)) :: undef :: []) k_ undef), (0 : Int), Ab, cb, fb, (nq - 1), qb, xs.tail, ds, bs, G, (kc + 1), congrArg Fr (by kernel_rfl), rfl, by omega, by omega, hB, hj, hrb, by rw [List.length_tail], hdl, hbl, (bj_bound hB hj).1, HS⟩ ?_
        clear HS
        intro kq45 a' W46 hrel
        obtain ⟨J44, q, A2, c2, f2, n2, q2, xs2, ds2, bs2, G2, k2, rfl, hk, q0, q1, hB2, hJ, hr2, hm2, hdl2, hbl2, hkb2, HS⟩ := hrel
        refine wp_seq ?_
        refine wp_region_lit ?_
        by_cases hc47 : q < ((idxs (keys false arcs) (rdI xs 0)).length : Int)
        · skip
          refine ql (.bool true) (by kernel_rfl) (R_bool (p := q < ((idxs (keys false arcs) (rdI xs 0)).length : Int)) (by kernel_rfl) (hc47)) ?_
          refine wpList_nil ?_
          refine x_then ?_
          refine wp_seq ?_
          refine wp_cond_true (by kernel_rfl) ?_
          refine wp_skip ?_
          refine x_then ?_
          refine wp_seq ?_
          refine wp_block ?_
          refine wp_seq ?_
          have hat := qj_at q0 (by omega)
          have hfi := gx_fine hF hat.1 hat.2.1
          have hju := hJ.ur
          have hlv := lvl hB2.ld hB2.ze (fun w a b hp => by obtain ⟨p1, p2, p3, p4⟩ := hB2.bk w a b hp; exact ⟨_, p1, p2, p3, p4⟩) hF hju.1 hju.2.1
          refine wp_region_lit ?_
          obtain ⟨g48, rfl⟩ := St.rsome HS (i := 0) rfl (by omega)
          refine ql (.pointer (some ⟨g48, q.toNat, none⟩)) (by kernel_rfl) (R_index1 (k := .i64) (g := g48) (n := ((idxs (keys false arcs) (rdI xs 0)).length)) (c := c42) (i := q) (by kernel_rfl) (by kernel_rfl) Try.underlying28 (by kernel_rfl) (by omega) (by omega)) ?_
          refine ql (.int .i64 (rdI (idxs (keys false arcs) (rdI xs 0)) q)) (by kernel_rfl) (R_load (p := ⟨g48, q.toNat, none⟩) (by kernel_rfl) (by kernel_rfl) (by kernel_rfl) (HS.rcell (i := 0) rfl (ci_rd (by omega) (by omega)))) ?_
          refine ql (.int .i64 (rdI (idxs (keys false arcs) (rdI xs 0)) q)) (by kernel_rfl) (by kernel_rfl) ?_
          refine wpList_nil ?_
          refine x_then ?_
          refine wp_seq ?_
          refine wp_region_lit ?_
          refine ql (.pointer (some ⟨gc, 0, none⟩)) (by kernel_rfl) (by kernel_rfl) ?_
          refine qc (f := 54) (args := #[.pointer (some ⟨gc, 0, none⟩), .int .i64 6, .int .i64 1]) (by kernel_rfl) (R_call #[.pointer (some ⟨gc, 0, none⟩), .int .i64 6, .int .i64 1] Try.func54 (by kernel_rfl) (by kernel_rfl) (by kernel_rfl)) ?_
          replace HS : St W (owns [blk gc [.int .i64 0, .int .i64 0, .int .i64 0, .int .i64 0, .int .i64 0, .int .i64 0, .int .i64 k0] tc]) W46 [blk gc [.int .i64 0, .int .i64 0, .int .i64 0, .int .i64 0, .int .i64 0, .int .i64 0, .int .i64 (k0 + ((k2 : Nat) : Int))] tc, row (some ⟨g48, 0, none⟩) ((idxs (keys false arcs) (rdI xs 0)).length) c42 (ci .i64 (idxs (keys false arcs) (rdI xs 0))) 3 1, blk g28 [.slice A2 q2.length c2, .int .i64 (f2 : Int), .int .i64 (n2 : Int)] 74, row A2 q2.length c2 (ci .i64 q2) 3 1, blk gt_ [.int .i64 v, .slice (some ⟨gd_, 0, none⟩) N N, .slice (some ⟨gb_, 0, none⟩) N N] 72, row (some ⟨gd_, 0, none⟩) N N (ci .i64 ds2) 3 1, row (some ⟨gb_, 0, none⟩) N N (ci .i64 bs2) 3 1] := HS.perm (perm_ [6, 0, 1, 2, 3, 4, 5] (by kernel_rfl) rfl)
          refine (cadd_blk gc tc (k0 + ((k2 : Nat) : Int)) _ _ (St.focus (F := [blk gc [.int .i64 0, .int .i64 0, .int .i64 0, .int .i64 0, .int .i64 0, .int .i64 0, .int .i64 (k0 + ((k2 : Nat) : Int))] tc]) HS) (by omega) (by omega)).mono ?_
          rintro e W49 ⟨rfl, H_⟩
          refine ⟨_, rfl, ?_⟩
          replace HS : St W (owns [blk gc [.int .i64 0, .int .i64 0, .int .i64 0, .int .i64 0, .int .i64 0, .int .i64 0, .int .i64 k0] tc]) W49 [blk gc [.int .i64 0, .int .i64 0, .int .i64 0, .int .i64 0, .int .i64 0, .int .i64 0, .int .i64 (k0 + ((k2 : Nat) : Int) + 1)] tc, row (some ⟨g48, 0, none⟩) ((idxs (keys false arcs) (rdI xs 0)).length) c42 (ci .i64 (idxs (keys false arcs) (rdI xs 0))) 3 1, blk g28 [.slice A2 q2.length c2, .int .i64 (f2 : Int), .int .i64 (n2 : Int)] 74, row A2 q2.length c2 (ci .i64 q2) 3 1, blk gt_ [.int .i64 v, .slice (some ⟨gd_, 0, none⟩) N N, .slice (some ⟨gb_, 0, none⟩) N N] 72, row (some ⟨gd_, 0, none⟩) N N (ci .i64 ds2) 3 1, row (some ⟨gb_, 0, none⟩) N N (ci .i64 bs2) 3 1] := HS.join (F := [blk gc [.int .i64 0, .int .i64 0, .int .i64 0, .int .i64 0, .int .i64 0, .int .i64 0, .int .i64 (k0 + ((k2 : Nat) : Int))] tc]) (G := [blk gc [.int .i64 0, .int .i64 0, .int .i64 0, .int .i64 0, .int .i64 0, .int .i64 0, .int .i64 (k0 + ((k2 : Nat) : Int) + 1)] tc]) H_
          clear H_
          have hk1 : k0 + ((k2 : Nat) : Int) + 1 = k0 + (((k2 + 1) : Nat) : Int) := by omega
          rw [hk1] at HS
          clear hk1
          refine wpList_nil ?_
          refine x_then ?_
          refine wp_seq ?_
          refine wp_region_lit ?_
          refine ql (.pointer (some ⟨g, 0, none⟩)) (by kernel_rfl) (by kernel_rfl) ?_
          refine ql (.int .i64 (rdI (idxs (keys false arcs) (rdI xs 0)) q)) (by kernel_rfl) (by kernel_rfl) ?_
          refine qc (f := 22) (args := #[.pointer (some ⟨g, 0, none⟩), .int .i64 (rdI (idxs (keys false arcs) (rdI xs 0)) q)]) (by kernel_rfl) (R_call #[.pointer (some ⟨g, 0, none⟩), .int .i64 (rdI (idxs (keys false arcs) (rdI xs 0)) q)] Try.func22 (by kernel_rfl) (by kernel_rfl) (by kernel_rfl)) ?_
          refine (arc_yes g N arcs _ (hG.below (below_gc hB0 HS hgc)) (rdI (idxs (keys false arcs) (rdI xs 0)) q) (by omega) (by omega)).mono ?_
          rintro e W50 ⟨rfl, H_⟩
          refine ⟨_, rfl, ?_⟩
          replace HS : St W (owns [blk gc [.int .i64 0, .int .i64 0, .int .i64 0, .int .i64 0, .int .i64 0, .int .i64 0, .int .i64 k0] tc]) W50 [blk gc [.int .i64 0, .int .i64 0, .int .i64 0, .int .i64 0, .int .i64 0, .int .i64 0, .int .i64 (k0 + (((k2 + 1) : Nat) : Int))] tc, row (some ⟨g48, 0, none⟩) ((idxs (keys false arcs) (rdI xs 0)).length) c42 (ci .i64 (idxs (keys false arcs) (rdI xs 0))) 3 1, blk g28 [.slice A2 q2.length c2, .int .i64 (f2 : Int), .int .i64 (n2 : Int)] 74, row A2 q2.length c2 (ci .i64 q2) 3 1, blk gt_ [.int .i64 v, .slice (some ⟨gd_, 0, none⟩) N N, .slice (some ⟨gb_, 0, none⟩) N N] 72, row (some ⟨gd_, 0, none⟩) N N (ci .i64 ds2) 3 1, row (some ⟨gb_, 0, none⟩) N N (ci .i64 bs2) 3 1] := HS.join (F := []) (G := []) H_
          clear H_
          refine ql (.tuple #[.agg #[.int .i64 ((gx arcs (rdI (idxs (keys false arcs) (rdI xs 0)) q)).1), .int .i64 ((gx arcs (rdI (idxs (keys false arcs) (rdI xs 0)) q)).2)], .bool true]) (by kernel_rfl) (by kernel_rfl) ?_
          refine ql (.agg #[.int .i64 ((gx arcs (rdI (idxs (keys false arcs) (rdI xs 0)) q)).1), .int .i64 ((gx arcs (rdI (idxs (keys false arcs) (rdI xs 0)) q)).2)]) (by kernel_rfl) (by kernel_rfl) ?_
          refine ql (.bool true) (by kernel_rfl) (by kernel_rfl) ?_
          refine kb HS [.int .i64 0, .int .i64 0] 35 (fun g => .pointer (some ⟨g, 0, none⟩)) (by kernel_rfl) (by kernel_rfl) ?_
          intro g51 W52 H_
          replace HS : St W (owns [blk gc [.int .i64 0, .int .i64 0, .int .i64 0, .int .i64 0, .int .i64 0, .int .i64 0, .int .i64 k0] tc]) W52 [blk g51 [.int .i64 0, .int .i64 0] 35, blk gc [.int .i64 0, .int .i64 0, .int .i64 0, .int .i64 0, .int .i64 0, .int .i64 0, .int .i64 (k0 + (((k2 + 1) : Nat) : Int))] tc, row (some ⟨g48, 0, none⟩) ((idxs (keys false arcs) (rdI xs 0)).length) c42 (ci .i64 (idxs (keys false arcs) (rdI xs 0))) 3 1, blk g28 [.slice A2 q2.length c2, .int .i64 (f2 : Int), .int .i64 (n2 : Int)] 74, row A2 q2.length c2 (ci .i64 q2) 3 1, blk gt_ [.int .i64 v, .slice (some ⟨gd_, 0, none⟩) N N, .slice (some ⟨gb_, 0, none⟩) N N] 72, row (some ⟨gd_, 0, none⟩) N N (ci .i64 ds2) 3 1, row (some ⟨gb_, 0, none⟩) N N (ci .i64 bs2) 3 1] := H_
          clear H_
          refine ks (v := .agg #[.int .i64 ((gx arcs (rdI (idxs (keys false arcs) (rdI xs 0)) q)).1), .int .i64 ((gx arcs (rdI (idxs (keys false arcs) (rdI xs 0)) q)).2)]) HS 0 rfl (0) [.int .i64 ((gx arcs (rdI (idxs (keys false arcs) (rdI xs 0)) q)).1), .int .i64 ((gx arcs (rdI (idxs (keys false arcs) (rdI xs 0)) q)).2)] (by kernel_rfl) (by kernel_rfl) (by kernel_rfl) (by kernel_rfl) (by kernel_rfl) (one_ (by kernel_rfl)) (Nat.le_of_ble_eq_true rfl) rfl ?_
          intro W53 H_
          replace HS : St W (owns [blk gc [.int .i64 0, .int .i64 0, .int .i64 0, .int .i64 0, .int .i64 0, .int .i64 0, .int .i64 k0] tc]) W53 [blk g51 [.int .i64 ((gx arcs (rdI (idxs (keys false arcs) (rdI xs 0)) q)).1), .int .i64 ((gx arcs (rdI (idxs (keys false arcs) (rdI xs 0)) q)).2)] 35, blk gc [.int .i64 0, .int .i64 0, .int .i64 0, .int .i64 0, .int .i64 0, .int .i64 0, .int .i64 (k0 + (((k2 + 1) : Nat) : Int))] tc, row (some ⟨g48, 0, none⟩) ((idxs (keys false arcs) (rdI xs 0)).length) c42 (ci .i64 (idxs (keys false arcs) (rdI xs 0))) 3 1, blk g28 [.slice A2 q2.length c2, .int .i64 (f2 : Int), .int .i64 (n2 : Int)] 74, row A2 q2.length c2 (ci .i64 q2) 3 1, blk gt_ [.int .i64 v, .slice (some ⟨gd_, 0, none⟩) N N, .slice (some ⟨gb_, 0, none⟩) N N] 72, row (some ⟨gd_, 0, none⟩) N N (ci .i64 ds2) 3 1, row (some ⟨gb_, 0, none⟩) N N (ci .i64 bs2) 3 1] := H_
          clear H_
          refine ql (.bool true) (by kernel_rfl) (by kernel_rfl) ?_
          refine wpList_nil ?_
          refine x_then ?_
          refine wp_block ?_
          refine wp_seq ?_
          refine rg_still HS 9 (by kernel_rfl) (by kernel_rfl) ?_
          intro W54 H_ HK_
          simp only [List.take_succ_cons, List.take_zero, List.drop_succ_cons, List.drop_zero]
          replace HS : St W (owns [blk gc [.int .i64 0, .int .i64 0, .int .i64 0, .int .i64 0, .int .i64 0, .int .i64 0, .int .i64 k0] tc]) W54 [blk g51 [.int .i64 ((gx arcs (rdI (idxs (keys false arcs) (rdI xs 0)) q)).1), .int .i64 ((gx arcs (rdI (idxs (keys false arcs) (rdI xs 0)) q)).2)] 35, blk gc [.int .i64 0, .int .i64 0, .int .i64 0, .int .i64 0, .int .i64 0, .int .i64 0, .int .i64 (k0 + (((k2 + 1) : Nat) : Int))] tc, row (some ⟨g48, 0, none⟩) ((idxs (keys false arcs) (rdI xs 0)).length) c42 (ci .i64 (idxs (keys false arcs) (rdI xs 0))) 3 1, blk g28 [.slice A2 q2.length c2, .int .i64 (f2 : Int), .int .i64 (n2 : Int)] 74, row A2 q2.length c2 (ci .i64 q2) 3 1, blk gt_ [.int .i64 v, .slice (some ⟨gd_, 0, none⟩) N N, .slice (some ⟨gb_, 0, none⟩) N N] 72, row (some ⟨gd_, 0, none⟩) N N (ci .i64 ds2) 3 1, row (some ⟨gb_, 0, none⟩) N N (ci .i64 bs2) 3 1] := H_
          clear H_
          clear HK_
          refine qs (.pointer (some ⟨gt_, 0, none⟩)) (by kernel_rfl) (by kernel_rfl) ?_
          refine qs (.pointer (some ⟨gt_, 0, none⟩)) (by kernel_rfl) (by kernel_rfl) ?_
          refine qs (.pointer (some ⟨gt_, 1, none⟩)) (by kernel_rfl) (by kernel_rfl) ?_
          refine qs (.slice (some ⟨gd_, 0, none⟩) N N) (by kernel_rfl) (R_load (p := ⟨gt_, 1, none⟩) (by kernel_rfl) (by kernel_rfl) (by kernel_rfl) (HS.cell (i := 5) (j := 1) rfl rfl)) ?_
          refine qs (.pointer (some ⟨g51, 1, none⟩)) (by kernel_rfl) (by kernel_rfl) ?_
          refine qs (.int .i64 ((gx arcs (rdI (idxs (keys false arcs) (rdI xs 0)) q)).2)) (by kernel_rfl) (R_load (p := ⟨g51, 1, none⟩) (by kernel_rfl) (by kernel_rfl) (by kernel_rfl) (HS.cell (i := 0) (j := 1) rfl rfl)) ?_
          refine qs (.pointer (some ⟨gd_, ((gx arcs (rdI (idxs (keys false arcs) (rdI xs 0)) q)).2).toNat, none⟩)) (by kernel_rfl) (R_index1 (k := .i64) (g := gd_) (n := N) (c := N) (i := (gx arcs (rdI (idxs (keys false arcs) (rdI xs 0)) q)).2) (by kernel_rfl) (by kernel_rfl) Try.underlying28 (by kernel_rfl) (by omega) (by omega)) ?_
          refine qs (.int .i64 (rdI ds2 ((gx arcs (rdI (idxs (keys false arcs) (rdI xs 0)) q)).2))) (by kernel_rfl) (R_load (p := ⟨gd_, ((gx arcs (rdI (idxs (keys false arcs) (rdI xs 0)) q)).2).toNat, none⟩) (by kernel_rfl) (by kernel_rfl) (by kernel_rfl) (HS.rcell (i := 6) rfl (ci_rd (by omega) (by omega)))) ?_
          by_cases hc55 : (rdI ds2 ((gx arcs (rdI (idxs (keys false arcs) (rdI xs 0)) q)).2)) < (0 : Int)
          · skip
            refine qs (.bool true) (by kernel_rfl) (R_bool (p := (rdI ds2 ((gx arcs (rdI (idxs (keys false arcs) (rdI xs 0)) q)).2)) < (0 : Int)) (by kernel_rfl) (hc55)) ?_
            refine wpStill_nil ?_
            refine ql (.bool true) (by kernel_rfl) (by kernel_rfl) ?_
            refine wpList_nil ?_
            refine x_then ?_
            refine wp_cond_true (by kernel_rfl) ?_
            refine wp_seq ?_
            refine t_start HS (fun k_ => (row (some ⟨gd_, 0, none⟩) N N (ci .i64 ds2) 3 1).own k_ ∨ (row (some ⟨gb_, 0, none⟩) N N (ci .i64 bs2) 3 1).own k_) 25 (by kernel_rfl) rfl ?_
            intro W56 H_ HD_
            clear HD_
            replace HS : St W (owns [blk gc [.int .i64 0, .int .i64 0, .int .i64 0, .int .i64 0, .int .i64 0, .int .i64 0, .int .i64 k0] tc]) W56 [blk g51 [.int .i64 ((gx arcs (rdI (idxs (keys false arcs) (rdI xs 0)) q)).1), .int .i64 ((gx arcs (rdI (idxs (keys false arcs) (rdI xs 0)) q)).2)] 35, blk gc [.int .i64 0, .int .i64 0, .int .i64 0, .int .i64 0, .int .i64 0, .int .i64 0, .int .i64 (k0 + (((k2 + 1) : Nat) : Int))] tc, row (some ⟨g48, 0, none⟩) ((idxs (keys false arcs) (rdI xs 0)).length) c42 (ci .i64 (idxs (keys false arcs) (rdI xs 0))) 3 1, blk g28 [.slice A2 q2.length c2, .int .i64 (f2 : Int), .int .i64 (n2 : Int)] 74, row A2 q2.length c2 (ci .i64 q2) 3 1, blk gt_ [.int .i64 v, .slice (some ⟨gd_, 0, none⟩) N N, .slice (some ⟨gb_, 0, none⟩) N N] 72, row (some ⟨gd_, 0, none⟩) N N (ci .i64 ds2) 3 1, row (some ⟨gb_, 0, none⟩) N N (ci .i64 bs2) 3 1] := H_
            clear H_
            have HV := HS
            have HK := Kpt.refl (fun k_ => (row (some ⟨gd_, 0, none⟩) N N (ci .i64 ds2) 3 1).own k_ ∨ (row (some ⟨gb_, 0, none⟩) N N (ci .i64 bs2) 3 1).own k_) W56
            refine t_q (n := 24) 0 (.pointer (some ⟨gt_, 0, none⟩)) rfl (by kernel_rfl) (by kernel_rfl) (fun _ _ _ h => h) (fun w' hk => (by kernel_rfl)) HK ?_
            refine t_q (n := 23) 1 (.pointer (some ⟨gt_, 0, none⟩)) rfl (by kernel_rfl) (by kernel_rfl) (fun _ _ _ h => h) (fun w' hk => (by kernel_rfl)) HK ?_
            refine t_q (n := 22) 2 (.pointer (some ⟨gt_, 1, none⟩)) rfl (by kernel_rfl) (by kernel_rfl) (fun _ _ _ h => h) (fun w' hk => (by kernel_rfl)) HK ?_
            refine t_q (n := 21) 3 (.slice (some ⟨gd_, 0, none⟩) N N) rfl (by kernel_rfl) (by kernel_rfl) (fun _ _ _ h => h) (fun w' hk => (R_load (p := ⟨gt_, 1, none⟩) (by kernel_rfl) (by kernel_rfl) (by kernel_rfl) (hk.cellN (fun h_ => h_.elim (HV.sepB (a := 5) (b := 6) (by decide) rfl rfl) (HV.sepB (a := 5) (b := 7) (by decide) rfl rfl)) (HV.cell (i := 5) (j := 1) rfl rfl)))) HK ?_
            refine t_q (n := 20) 4 (.pointer (some ⟨g51, 1, none⟩)) rfl (by kernel_rfl) (by kernel_rfl) (fun _ _ _ h => h) (fun w' hk => (by kernel_rfl)) HK ?_
            refine t_q (n := 19) 5 (.int .i64 ((gx arcs (rdI (idxs (keys false arcs) (rdI xs 0)) q)).2)) rfl (by kernel_rfl) (by kernel_rfl) (fun _ _ _ h => h) (fun w' hk => (R_load (p := ⟨g51, 1, none⟩) (by kernel_rfl) (by kernel_rfl) (by kernel_rfl) (hk.cellN (fun h_ => h_.elim (HV.sepB (a := 0) (b := 6) (by decide) rfl rfl) (HV.sepB (a := 0) (b := 7) (by decide) rfl rfl)) (HV.cell (i := 0) (j := 1) rfl rfl)))) HK ?_
            refine t_q (n := 18) 6 (.pointer (some ⟨gt_, 0, none⟩)) rfl (by kernel_rfl) (by kernel_rfl) (fun _ _ _ h => h) (fun w' hk => (by kernel_rfl)) HK ?_
            refine t_q (n := 17) 7 (.pointer (some ⟨gt_, 0, none⟩)) rfl (by kernel_rfl) (by kernel_rfl) (fun _ _ _ h => h) (fun w' hk => (by kernel_rfl)) HK ?_
            refine t_q (n := 16) 8 (.pointer (some ⟨gt_, 2, none⟩)) rfl (by kernel_rfl) (by kernel_rfl) (fun _ _ _ h => h) (fun w' hk => (by kernel_rfl)) HK ?_
            refine t_q (n := 15) 9 (.slice (some ⟨gb_, 0, none⟩) N N) rfl (by kernel_rfl) (by kernel_rfl) (fun _ _ _ h => h) (fun w' hk => (R_load (p := ⟨gt_, 2, none⟩) (by kernel_rfl) (by kernel_rfl) (by kernel_rfl) (hk.cellN (fun h_ => h_.elim (HV.sepB (a := 5) (b := 6) (by decide) rfl rfl) (HV.sepB (a := 5) (b := 7) (by decide) rfl rfl)) (HV.cell (i := 5) (j := 2) rfl rfl)))) HK ?_
            refine t_q (n := 14) 10 (.pointer (some ⟨g51, 1, none⟩)) rfl (by kernel_rfl) (by kernel_rfl) (fun _ _ _ h => h) (fun w' hk => (by kernel_rfl)) HK ?_
            refine t_q (n := 13) 11 (.int .i64 ((gx arcs (rdI (idxs (keys false arcs) (rdI xs 0)) q)).2)) rfl (by kernel_rfl) (by kernel_rfl) (fun _ _ _ h => h) (fun w' hk => (R_load (p := ⟨g51, 1, none⟩) (by kernel_rfl) (by kernel_rfl) (by kernel_rfl) (hk.cellN (fun h_ => h_.elim (HV.sepB (a := 0) (b := 6) (by decide) rfl rfl) (HV.sepB (a := 0) (b := 7) (by decide) rfl rfl)) (HV.cell (i := 0) (j := 1) rfl rfl)))) HK ?_
            refine t_q (n := 12) 12 (.pointer (some ⟨gt_, 0, none⟩)) rfl (by kernel_rfl) (by kernel_rfl) (fun _ _ _ h => h) (fun w' hk => (by kernel_rfl)) HK ?_
            refine t_q (n := 11) 13 (.pointer (some ⟨gt_, 0, none⟩)) rfl (by kernel_rfl) (by kernel_rfl) (fun _ _ _ h => h) (fun w' hk => (by kernel_rfl)) HK ?_
            refine t_q (n := 10) 14 (.pointer (some ⟨gt_, 1, none⟩)) rfl (by kernel_rfl) (by kernel_rfl) (fun _ _ _ h => h) (fun w' hk => (by kernel_rfl)) HK ?_
            refine t_q (n := 9) 15 (.slice (some ⟨gd_, 0, none⟩) N N) rfl (by kernel_rfl) (by kernel_rfl) (fun _ _ _ h => h) (fun w' hk => (R_load (p := ⟨gt_, 1, none⟩) (by kernel_rfl) (by kernel_rfl) (by kernel_rfl) (hk.cellN (fun h_ => h_.elim (HV.sepB (a := 5) (b := 6) (by decide) rfl rfl) (HV.sepB (a := 5) (b := 7) (by decide) rfl rfl)) (HV.cell (i := 5) (j := 1) rfl rfl)))) HK ?_
            refine t_q (n := 8) 16 (.int .i64 (rdI xs 0)) rfl (by kernel_rfl) (by kernel_rfl) (fun _ _ _ h => h) (fun w' hk => (by kernel_rfl)) HK ?_
            refine t_q (n := 7) 17 (.pointer (some ⟨gd_, (rdI xs 0).toNat, none⟩)) rfl (by kernel_rfl) (by kernel_rfl) (fun _ _ _ h => h) (fun w' hk => (R_index1 (k := .i64) (g := gd_) (n := N) (c := N) (i := (rdI xs 0)) (by kernel_rfl) (by kernel_rfl) Try.underlying28 (by kernel_rfl) (by omega) (by omega))) HK ?_
            refine t_q (n := 6) 20 (.int .i64 (rdI (idxs (keys false arcs) (rdI xs 0)) q)) rfl (by kernel_rfl) (by kernel_rfl) (fun _ _ _ h => h) (fun w' hk => (by kernel_rfl)) HK ?_
            refine t_e (n := 5) 18 (.int .i64 (rdI ds2 (rdI xs 0))) rfl (by kernel_rfl) (by kernel_rfl) (R_load (p := ⟨gd_, (rdI xs 0).toNat, none⟩) (by kernel_rfl) (by kernel_rfl) (by kernel_rfl) (HS.rcell (i := 6) rfl (ci_rd (by omega) (by omega)))) HK ?_
            refine t_q (n := 4) 19 (.int .i64 ((rdI ds2 (rdI xs 0)) + 1)) rfl (by kernel_rfl) (by kernel_rfl) (fun _ _ _ h => h) (fun w' hk => (R_int (by kernel_rfl) (w64 (by omega)))) HK ?_
            refine t_q (n := 3) 21 (.pointer (some ⟨gd_, ((gx arcs (rdI (idxs (keys false arcs) (rdI xs 0)) q)).2).toNat, none⟩)) rfl (by kernel_rfl) (by kernel_rfl) (fun _ _ _ h => h) (fun w' hk => (R_index1 (k := .i64) (g := gd_) (n := N) (c := N) (i := (gx arcs (rdI (idxs (keys false arcs) (rdI xs 0)) q)).2) (by kernel_rfl) (by kernel_rfl) Try.underlying28 (by kernel_rfl) (by omega) (by omega))) HK ?_
            obtain ⟨W57, hrun_, H_, hk_⟩ := ex_kr (P := Try.prog) (ty := 0) (ps := "bfs.go:38") (af := #[{ on := 21, ground := Go.Ground.data }, { on := 19, ground := Go.Ground.data }, { on := 0, ground := Go.Ground.phase }, { on := 1, ground := Go.Ground.phase }, { on := 2, ground := Go.Ground.phase }, { on := 3, ground := Go.Ground.phase }, { on := 4, ground := Go.Ground.phase }, { on := 5, ground := Go.Ground.phase }, { on := 6, ground := (Go.Ground.textOnly Go.Departure.lateStores) }, { on := 7, ground := (Go.Ground.textOnly Go.Departure.lateStoresUnsure) }, { on := 8, ground := (Go.Ground.textOnly Go.Departure.lateStoresUnsure) }, { on := 9, ground := Go.Ground.phase }, { on := 10, ground := (Go.Ground.textOnly Go.Departure.lateStores) }, { on := 11, ground := (Go.Ground.textOnly Go.Departure.lateStores) }, { on := 12, ground := Go.Ground.phase }, { on := 13, ground := Go.Ground.phase }, { on := 14, ground := Go.Ground.phase }, { on := 15, ground := Go.Ground.phase }, { on := 16, ground := Go.Ground.phase }, { on := 17, ground := Go.Ground.phase }, { on := 18, ground := Go.Ground.phase }, { on := 19, ground := Go.Ground.phase }, { on := 20, ground := (Go.Ground.textOnly Go.Departure.lateStores) }]) (gd := none) (t := 3) (x := (Go.Operand.tmp 115)) (y := (Go.Operand.tmp 113)) (v := .int .i64 ((rdI ds2 (rdI xs 0)) + 1)) HS 6 rfl (((gx arcs (rdI (idxs (keys false arcs) (rdI xs 0)) q)).2).toNat) [.int .i64 ((rdI ds2 (rdI xs 0)) + 1)] (by kernel_rfl) (by kernel_rfl) (by kernel_rfl) (by kernel_rfl) (one_ (by kernel_rfl)) (by rw [ci_len]; first | omega | (simp only [List.length_singleton]; omega))
            replace HK := HK.trans hk_ (fun _ h_ => .inl (.inl (row_own h_)))
            refine t_s (n := 2) 22 rfl (by kernel_rfl) (by kernel_rfl) hrun_ HK ?_
            clear hk_ hrun_
            obtain ⟨xs58, xs58_⟩ : ∃ z_ : List Int, z_ = (ds2).set ((gx arcs (rdI (idxs (keys false arcs) (rdI xs 0)) q)).2).toNat ((rdI ds2 (rdI xs 0)) + 1) := ⟨_, rfl⟩
            replace HS : St W (owns [blk gc [.int .i64 0, .int .i64 0, .int .i64 0, .int .i64 0, .int .i64 0, .int .i64 0, .int .i64 k0] tc]) W57 [blk g51 [.int .i64 ((gx arcs (rdI (idxs (keys false arcs) (rdI xs 0)) q)).1), .int .i64 ((gx arcs (rdI (idxs (keys false arcs) (rdI xs 0)) q)).2)] 35, blk gc [.int .i64 0, .int .i64 0, .int .i64 0, .int .i64 0, .int .i64 0, .int .i64 0, .int .i64 (k0 + (((k2 + 1) : Nat) : Int))] tc, row (some ⟨g48, 0, none⟩) ((idxs (keys false arcs) (rdI xs 0)).length) c42 (ci .i64 (idxs (keys false arcs) (rdI xs 0))) 3 1, blk g28 [.slice A2 q2.length c2, .int .i64 (f2 : Int), .int .i64 (n2 : Int)] 74, row A2 q2.length c2 (ci .i64 q2) 3 1, blk gt_ [.int .i64 v, .slice (some ⟨gd_, 0, none⟩) N N, .slice (some ⟨gb_, 0, none⟩) N N] 72, row (some ⟨gd_, 0, none⟩) N N (ci .i64 xs58) 3 1, row (some ⟨gb_, 0, none⟩) N N (ci .i64 bs2) 3 1] := H_.cast_ (by rw [xs58_, ← ci_set]; rfl)
            clear H_
            have xs58l : xs58.length = N := by rw [xs58_, List.length_set]; first | done | omega
            refine t_q (n := 1) 23 (.pointer (some ⟨gb_, ((gx arcs (rdI (idxs (keys false arcs) (rdI xs 0)) q)).2).toNat, none⟩)) rfl (by kernel_rfl) (by kernel_rfl) (fun _ _ _ h => h) (fun w' hk => (R_index1 (k := .i64) (g := gb_) (n := N) (c := N) (i := (gx arcs (rdI (idxs (keys false arcs) (rdI xs 0)) q)).2) (by kernel_rfl) (by kernel_rfl) Try.underlying28 (by kernel_rfl) (by omega) (by omega))) HK ?_
            obtain ⟨W59, hrun_, H_, hk_⟩ := ex_kr (P := Try.prog) (ty := 0) (ps := "bfs.go:38") (af := #[{ on := 23, ground := Go.Ground.data }, { on := 20, ground := Go.Ground.data }, { on := 22, ground := Go.Ground.chain }, { on := 0, ground := Go.Ground.phase }, { on := 1, ground := Go.Ground.phase }, { on := 2, ground := Go.Ground.phase }, { on := 3, ground := Go.Ground.phase }, { on := 4, ground := Go.Ground.phase }, { on := 5, ground := Go.Ground.phase }, { on := 6, ground := Go.Ground.phase }, { on := 7, ground := Go.Ground.phase }, { on := 8, ground := Go.Ground.phase }, { on := 9, ground := Go.Ground.phase }, { on := 10, ground := Go.Ground.phase }, { on := 11, ground := Go.Ground.phase }, { on := 12, ground := Go.Ground.phase }, { on := 13, ground := Go.Ground.phase }, { on := 14, ground := Go.Ground.phase }, { on := 15, ground := Go.Ground.phase }, { on := 16, ground := Go.Ground.phase }, { on := 17, ground := Go.Ground.phase }, { on := 18, ground := Go.Ground.phase }, { on := 19, ground := Go.Ground.phase }, { on := 20, ground := Go.Ground.phase }, { on := 21, ground := Go.Ground.phase }, { on := 22, ground := Go.Ground.phase }]) (gd := none) (t := 3) (x := (Go.Operand.tmp 116)) (y := (Go.Operand.tmp 114)) (v := .int .i64 (rdI (idxs (keys false arcs) (rdI xs 0)) q)) HS 7 rfl (((gx arcs (rdI (idxs (keys false arcs) (rdI xs 0)) q)).2).toNat) [.int .i64 (rdI (idxs (keys false arcs) (rdI xs 0)) q)] (by kernel_rfl) (by kernel_rfl) (by kernel_rfl) (by kernel_rfl) (one_ (by kernel_rfl)) (by rw [ci_len]; first | omega | (simp only [List.length_singleton]; omega))
            replace HK := HK.trans hk_ (fun _ h_ => .inl (.inr (row_own h_)))
            refine t_s (n := 0) 24 rfl (by kernel_rfl) (by kernel_rfl) hrun_ HK ?_
            clear hk_ hrun_
            obtain ⟨xs60, xs60_⟩ : ∃ z_ : List Int, z_ = (bs2).set ((gx arcs (rdI (idxs (keys false arcs) (rdI xs 0)) q)).2).toNat (rdI (idxs (keys false arcs) (rdI xs 0)) q) := ⟨_, rfl⟩
            replace HS : St W (owns [blk gc [.int .i64 0, .int .i64 0, .int .i64 0, .int .i64 0, .int .i64 0, .int .i64 0, .int .i64 k0] tc]) W59 [blk g51 [.int .i64 ((gx arcs (rdI (idxs (keys false arcs) (rdI xs 0)) q)).1), .int .i64 ((gx arcs (rdI (idxs (keys false arcs) (rdI xs 0)) q)).2)] 35, blk gc [.int .i64 0, .int .i64 0, .int .i64 0, .int .i64 0, .int .i64 0, .int .i64 0, .int .i64 (k0 + (((k2 + 1) : Nat) : Int))] tc, row (some ⟨g48, 0, none⟩) ((idxs (keys false arcs) (rdI xs 0)).length) c42 (ci .i64 (idxs (keys false arcs) (rdI xs 0))) 3 1, blk g28 [.slice A2 q2.length c2, .int .i64 (f2 : Int), .int .i64 (n2 : Int)] 74, row A2 q2.length c2 (ci .i64 q2) 3 1, blk gt_ [.int .i64 v, .slice (some ⟨gd_, 0, none⟩) N N, .slice (some ⟨gb_, 0, none⟩) N N] 72, row (some ⟨gd_, 0, none⟩) N N (ci .i64 xs58) 3 1, row (some ⟨gb_, 0, none⟩) N N (ci .i64 xs60) 3 1] := H_.cast_ (by rw [xs60_, ← ci_set]; rfl)
            clear H_
            have xs60l : xs60.length = N := by rw [xs60_, List.length_set]; first | done | omega
            refine t_done (by kernel_rfl) ?_
            clear HV HK
            refine x_then ?_
            refine wp_region_lit ?_
            refine ql (.pointer (some ⟨g51, 1, none⟩)) (by kernel_rfl) (by kernel_rfl) ?_
            refine ql (.int .i64 ((gx arcs (rdI (idxs (keys false arcs) (rdI xs 0)) q)).2)) (by kernel_rfl) (R_load (p := ⟨g51, 1, none⟩) (by kernel_rfl) (by kernel_rfl) (by kernel_rfl) (HS.cell (i := 0) (j := 1) rfl rfl)) ?_
            refine kl HS 1 [.int .i64 ((gx arcs (rdI (idxs (keys false arcs) (rdI xs 0)) q)).2)] 3 1 (by kernel_rfl) (by kernel_rfl) rfl (by decide) ?_
            intro g61 W62 H_
            replace HS : St W (owns [blk gc [.int .i64 0, .int .i64 0, .int .i64 0, .int .i64 0, .int .i64 0, .int .i64 0, .int .i64 k0] tc]) W62 [row (some ⟨g61, 0, none⟩) 1 1 (ci .i64 ([(gx arcs (rdI (idxs (keys false arcs) (rdI xs 0)) q)).2])) 3 1, blk g51 [.int .i64 ((gx arcs (rdI (idxs (keys false arcs) (rdI xs 0)) q)).1), .int .i64 ((gx arcs (rdI (idxs (keys false arcs) (rdI xs 0)) q)).2)] 35, blk gc [.int .i64 0, .int .i64 0, .int .i64 0, .int .i64 0, .int .i64 0, .int .i64 0, .int .i64 (k0 + (((k2 + 1) : Nat) : Int))] tc, row (some ⟨g48, 0, none⟩) ((idxs (keys false arcs) (rdI xs 0)).length) c42 (ci .i64 (idxs (keys false arcs) (rdI xs 0))) 3 1, blk g28 [.slice A2 q2.length c2, .int .i64 (f2 : Int), .int .i64 (n2 : Int)] 74, row A2 q2.length c2 (ci .i64 q2) 3 1, blk gt_ [.int .i64 v, .slice (some ⟨gd_, 0, none⟩) N N, .slice (some ⟨gb_, 0, none⟩) N N] 72, row (some ⟨gd_, 0, none⟩) N N (ci .i64 xs58) 3 1, row (some ⟨gb_, 0, none⟩) N N (ci .i64 xs60) 3 1] := H_.cast_ (by kernel_rfl)
            clear H_
            refine qc (f := 51) (args := #[.pointer (some ⟨g28, 0, none⟩), .slice (some ⟨g61, 0, none⟩) 1 1]) (by kernel_rfl) (R_call #[.pointer (some ⟨g28, 0, none⟩), .slice (some ⟨g61, 0, none⟩) 1 1] Try.func51 (by kernel_rfl) (by kernel_rfl) (by kernel_rfl)) ?_
            replace HS : St W (owns [blk gc [.int .i64 0, .int .i64 0, .int .i64 0, .int .i64 0, .int .i64 0, .int .i64 0, .int .i64 k0] tc]) W62 [blk g28 [.slice A2 q2.length c2, .int .i64 (f2 : Int), .int .i64 (n2 : Int)] 74, row A2 q2.length c2 (ci .i64 q2) 3 1, row (some ⟨g61, 0, none⟩) 1 1 (ci .i64 ([(gx arcs (rdI (idxs (keys false arcs) (rdI xs 0)) q)).2])) 3 1, blk g51 [.int .i64 ((gx arcs (rdI (idxs (keys false arcs) (rdI xs 0)) q)).1), .int .i64 ((gx arcs (rdI (idxs (keys false arcs) (rdI xs 0)) q)).2)] 35, blk gc [.int .i64 0, .int .i64 0, .int .i64 0, .int .i64 0, .int .i64 0, .int .i64 0, .int .i64 (k0 + (((k2 + 1) : Nat) : Int))] tc, row (some ⟨g48, 0, none⟩) ((idxs (keys false arcs) (rdI xs 0)).length) c42 (ci .i64 (idxs (keys false arcs) (rdI xs 0))) 3 1, blk gt_ [.int .i64 v, .slice (some ⟨gd_, 0, none⟩) N N, .slice (some ⟨gb_, 0, none⟩) N N] 72, row (some ⟨gd_, 0, none⟩) N N (ci .i64 xs58) 3 1, row (some ⟨gb_, 0, none⟩) N N (ci .i64 xs60) 3 1] := HS.perm (perm_ [4, 5, 0, 1, 2, 3, 6, 7, 8] (by kernel_rfl) rfl)
            refine (qpush g28 74 [] _ _ c2 _ f2 n2 q2 xs2 ([(gx arcs (rdI (idxs (keys false arcs) (rdI xs 0)) q)).2]) _ _ (St.focus (F := [blk g28 [.slice A2 q2.length c2, .int .i64 (f2 : Int), .int .i64 (n2 : Int)] 74, row A2 q2.length c2 (ci .i64 q2) 3 1, row (some ⟨g61, 0, none⟩) 1 1 (ci .i64 ([(gx arcs (rdI (idxs (keys false arcs) (rdI xs 0)) q)).2])) 3 1]) HS) hr2 (by have hb9 := bj_bound hB2 hJ; simp only [List.length_cons, List.length_nil]; omega)).mono ?_
            rintro e W64 ⟨Ap63, cp63, fp63, np63, qp63, rfl, H_, hrp63⟩
            refine ⟨_, rfl, ?_⟩
            replace HS : St W (owns [blk gc [.int .i64 0, .int .i64 0, .int .i64 0, .int .i64 0, .int .i64 0, .int .i64 0, .int .i64 k0] tc]) W64 [blk g28 [.slice Ap63 qp63.length cp63, .int .i64 (fp63 : Int), .int .i64 (np63 : Int)] 74, row Ap63 qp63.length cp63 (ci .i64 qp63) 3 1, blk g51 [.int .i64 ((gx arcs (rdI (idxs (keys false arcs) (rdI xs 0)) q)).1), .int .i64 ((gx arcs (rdI (idxs (keys false arcs) (rdI xs 0)) q)).2)] 35, blk gc [.int .i64 0, .int .i64 0, .int .i64 0, .int .i64 0, .int .i64 0, .int .i64 0, .int .i64 (k0 + (((k2 + 1) : Nat) : Int))] tc, row (some ⟨g48, 0, none⟩) ((idxs (keys false arcs) (rdI xs 0)).length) c42 (ci .i64 (idxs (keys false arcs) (rdI xs 0))) 3 1, blk gt_ [.int .i64 v, .slice (some ⟨gd_, 0, none⟩) N N, .slice (some ⟨gb_, 0, none⟩) N N] 72, row (some ⟨gd_, 0, none⟩) N N (ci .i64 xs58) 3 1, row (some ⟨gb_, 0, none⟩) N N (ci .i64 xs60) 3 1] := HS.join (F := [blk g28 [.slice A2 q2.length c2, .int .i64 (f2 : Int), .int .i64 (n2 : Int)] 74, row A2 q2.length c2 (ci .i64 q2) 3 1, row (some ⟨g61, 0, none⟩) 1 1 (ci .i64 ([(gx arcs (rdI (idxs (keys false arcs) (rdI xs 0)) q)).2])) 3 1]) (G := [blk g28 [.slice Ap63 qp63.length cp63, .int .i64 (fp63 : Int), .int .i64 (np63 : Int)] 74, row Ap63 qp63.length cp63 (ci .i64 qp63) 3 1]) H_
            clear H_
            refine wpList_nil ?_
            refine x_inb ?_
            refine x_inb ?_
            refine x_then ?_
            refine wp_region_lit ?_
            refine ql (.int .i64 (q + 1)) (by kernel_rfl) (R_int (by kernel_rfl) (w64 (by omega))) ?_
            refine ql (.int .i64 (q + 1)) (by kernel_rfl) (by kernel_rfl) ?_
            refine wpList_nil ?_
            replace HS : St W (owns [blk gc [.int .i64 0, .int .i64 0, .int .i64 0, .int .i64 0, .int .i64 0, .int .i64 0, .int .i64 k0] tc]) W64 [row (some ⟨g48, 0, none⟩) ((idxs (keys false arcs) (rdI xs 0)).length) c42 (ci .i64 (idxs (keys false arcs) (rdI xs 0))) 3 1, blk g28 [.slice Ap63 qp63.length cp63, .int .i64 (fp63 : Int), .int .i64 (np63 : Int)] 74, row Ap63 qp63.length cp63 (ci .i64 qp63) 3 1, blk gt_ [.int .i64 v, .slice (some ⟨gd_, 0, none⟩) N N, .slice (some ⟨gb_, 0, none⟩) N N] 72, row (some ⟨gd_, 0, none⟩) N N (ci .i64 xs58) 3 1, row (some ⟨gb_, 0, none⟩) N N (ci .i64 xs60) 3 1, blk gc [.int .i64 0, .int .i64 0, .int .i64 0, .int .i64 0, .int .i64 0, .int .i64 0, .int .i64 (k0 + (((k2 + 1) : Nat) : Int))] tc] := St.tail (F := [blk g51 [.int .i64 ((gx arcs (rdI (idxs (keys false arcs) (rdI xs 0)) q)).1), .int .i64 ((gx arcs (rdI (idxs (keys false arcs) (rdI xs 0)) q)).2)] 35]) (HS.perm (perm_ [2, 4, 0, 1, 5, 6, 7, 3] (by kernel_rfl) rfl))
            have hst := bq_new hF hB2 hJ q0 (by omega) rfl hc55 xs58_ xs60_
            have hng := ng_set (ds := ds2) (w := (gx arcs (rdI (idxs (keys false arcs) (rdI xs 0)) q)).2) (x := rdI ds2 (rdI xs 0) + 1) hfi.2.2.1 (by omega) hc55 (by omega)
            rw [← xs58_] at hng
            refine x_then ?_
            exact ⟨(idxs (keys false arcs) (rdI xs 0)).length - (q + 1).toNat, by omega, (fun k_ : Nat => List.getD ((.pointer (some ⟨g, 0, none⟩)) :: (.int .i64 v) :: (.pointer (some ⟨gc, 0, none⟩)) :: undef :: undef :: undef :: (.pointer none) :: (.int .i64 (N : Int)) :: (.pointer (some ⟨gt_, 0, none⟩)) :: ((J17 9)) :: (.pointer (some ⟨g28, 0, none⟩)) :: (.int .i64 (rdI xs 0)) :: (.bool true) :: undef :: (.int .i64 (rdI (idxs (keys false arcs) (rdI xs 0)) q)) :: (.pointer (some ⟨g51, 0, none⟩)) :: (.bool true) :: (.pointer (some ⟨g, 0, none⟩)) :: (.int .i64 (N : Int)) :: ((u2 19)) :: ((u2 20)) :: ((u2 21)) :: ((u2 22)) :: ((u2 23)) :: ((u2 24)) :: ((u2 25)) :: (.int .i64 (N : Int)) :: (.int .i64 w) :: (.bool false) :: ((J17 29)) :: ((J17 30)) :: ((J17 31)) :: ((J17 32)) :: ((J17 33)) :: ((J17 34)) :: ((J17 35)) :: ((J17 36)) :: ((J17 37)) :: ((J17 38)) :: ((J17 39)) :: ((J17 40)) :: ((J17 41)) :: ((J17 42)) :: (.int .i64 v) :: (.bool false) :: (.bool false) :: (.int .i64 v) :: (.int .i64 (N : Int)) :: (.bool false) :: (.bool false) :: undef :: (.pointer (some ⟨gt_, 0, none⟩)) :: (.pointer (some ⟨gt_, 0, none⟩)) :: (.pointer (some ⟨gt_, 1, none⟩)) :: (.slice (some ⟨gd_, 0, none⟩) N N) :: (.int .i64 v) :: (.pointer (some ⟨gd_, v.toNat, none⟩)) :: (.int .i64 v) :: (.slice (some ⟨g30, 0, none⟩) 1 1) :: (.tuple #[]) :: (.int .i64 (nq : Int)) :: (.bool true) :: (.tuple #[.int .i64 (rdI xs 0), .bool true]) :: (.tuple #[.int .i64 (rdI xs 0), .bool true]) :: (.int .i64 (rdI xs 0)) :: (.bool true) :: (.pointer (some ⟨gc, 0, none⟩)) :: (.tuple #[]) :: (.pointer (some ⟨g, 0, none⟩)) :: (.int .i64 (rdI xs 0)) :: (.slice (some ⟨g48, 0, none⟩) ((idxs (keys false arcs) (rdI xs 0)).length) c42) :: (.int .i64 ((idxs (keys false arcs) (rdI xs 0)).length : Int)) :: (.int .i64 (q + 1)) :: (.bool true) :: (.pointer (some ⟨g48, q.toNat, none⟩)) :: (.int .i64 (rdI (idxs (keys false arcs) (rdI xs 0)) q)) :: (.pointer (some ⟨gc, 0, none⟩)) :: (.tuple #[]) :: (.tuple #[.agg #[.int .i64 ((gx arcs (rdI (idxs (keys false arcs) (rdI xs 0)) q)).1), .int .i64 ((gx arcs (rdI (idxs (keys false arcs) (rdI xs 0)) q)).2)], .bool true]) :: (.pointer (some ⟨g, 0, none⟩)) :: (.int .i64 (rdI (idxs (keys false arcs) (rdI xs 0)) q)) :: (.tuple #[.agg #[.int .i64 ((gx arcs (rdI (idxs (keys false arcs) (rdI xs 0)) q)).1), .int .i64 ((gx arcs (rdI (idxs (keys false arcs) (rdI xs 0)) q)).2)], .bool true]) :: (.agg #[.int .i64 ((gx arcs (rdI (idxs (keys false arcs) (rdI xs 0)) q)).1), .int .i64 ((gx arcs (rdI (idxs (keys false arcs) (rdI xs 0)) q)).2)]) :: (.bool true) :: (.bool true) :: (.pointer (some ⟨gt_, 0, none⟩)) :: (.pointer (some ⟨gt_, 0, none⟩)) :: (.pointer (some ⟨gt_, 1, none⟩)) :: (.slice (some ⟨gd_, 0, none⟩) N N) :: (.pointer (some ⟨g51, 1, none⟩)) :: (.int .i64 ((gx arcs (rdI (idxs (keys false arcs) (rdI xs 0)) q)).2)) :: (.pointer (some ⟨gd_, ((gx arcs (rdI (idxs (keys false arcs) (rdI xs 0)) q)).2).toNat, none⟩)) :: (.int .i64 (rdI ds2 ((gx arcs (rdI (idxs (keys false arcs) (rdI xs 0)) q)).2))) :: (.bool true) :: (.pointer (some ⟨gt_, 0, none⟩)) :: (.pointer (some ⟨gt_, 0, none⟩)) :: (.pointer (some ⟨gt_, 1, none⟩)) :: (.slice (some ⟨gd_, 0, none⟩) N N) :: (.pointer (some ⟨g51, 1, none⟩)) :: (.int .i64 ((gx arcs (rdI (idxs (keys false arcs) (rdI xs 0)) q)).2)) :: (.pointer (some ⟨gt_, 0, none⟩)) :: (.pointer (some ⟨gt_, 0, none⟩)) :: (.pointer (some ⟨gt_, 2, none⟩)) :: (.slice (some ⟨gb_, 0, none⟩) N N) :: (.pointer (some ⟨g51, 1, none⟩)) :: (.int .i64 ((gx arcs (rdI (idxs (keys false arcs) (rdI xs 0)) q)).2)) :: (.pointer (some ⟨gt_, 0, none⟩)) :: (.pointer (some ⟨gt_, 0, none⟩)) :: (.pointer (some ⟨gt_, 1, none⟩)) :: (.slice (some ⟨gd_, 0, none⟩) N N) :: (.int .i64 (rdI xs 0)) :: (.pointer (some ⟨gd_, (rdI xs 0).toNat, none⟩)) :: (.int .i64 (rdI ds2 (rdI xs 0))) :: (.int .i64 ((rdI ds2 (rdI xs 0)) + 1)) :: (.int .i64 (rdI (idxs (keys false arcs) (rdI xs 0)) q)) :: (.pointer (some ⟨gd_, ((gx arcs (rdI (idxs (keys false arcs) (rdI xs 0)) q)).2).toNat, none⟩)) :: (.pointer (some ⟨gb_, ((gx arcs (rdI (idxs (keys false arcs) (rdI xs 0)) q)).2).toNat, none⟩)) :: (.pointer (some ⟨g51, 1, none⟩)) :: (.int .i64 ((gx arcs (rdI (idxs (keys false arcs) (rdI xs 0)) q)).2)) :: (.slice (some ⟨g61, 0, none⟩) 1 1) :: (.tuple #[]) :: ((J44 121)) :: ((J44 122)) :: ((J44 123)) :: ((J44 124)) :: ((J44 125)) :: ((J44 126)) :: ((J44 127)) :: ((J44 128)) :: ((J44 129)) :: ((J44 130)) :: ((J44 131)) :: ((J44 132)) :: ((J44 133)) :: ((J44 134)) :: ((J44 135)) :: ((J44 136)) :: ((J44 137)) :: ((J44 138)) :: ((J44 139)) :: ((J44 140)) :: ((J44 141)) :: ((J44 142)) :: ((J44 143)) :: ((J44 144)) :: ((J44 145)) :: ((J44 146)) :: ((J44 147)) :: ((J44 148)) :: ((J44 149)) :: ((J44 150)) :: ((J44 151)) :: ((J44 152)) :: ((J44 153)) :: ((J44 154)) :: ((J44 155)) :: (.int .i64 (q + 1)) :: undef :: []) k_ undef), q + 1, Ap63, cp63, fp63, np63, qp63, (xs2 ++ [(gx arcs (rdI (idxs (keys false arcs) (rdI xs 0)) q)).2]), xs58, xs60, ((rdI (idxs (keys false arcs) (rdI xs 0)) q) :: G2), (k2 + 1), congrArg Fr (by kernel_rfl), rfl, by omega, by omega, hst.1, hst.2, hrp63, by rw [List.length_append, List.length_singleton]; omega, by omega, by omega, (bj_bound hst.1 hst.2).1, HS⟩
          · skip
            refine qs (.bool false) (by kernel_rfl) (R_nbool (p := (rdI ds2 ((gx arcs (rdI (idxs (keys false arcs) (rdI xs 0)) q)).2)) < (0 : Int)) (by kernel_rfl) (hc55)) ?_
            refine wpStill_nil ?_
            refine ql (.bool false) (by kernel_rfl) (by kernel_rfl) ?_
            refine wpList_nil ?_
            refine x_then ?_
            refine wp_cond_false (by kernel_rfl) ?_
            refine wp_seq ?_
            refine rg_still HS 17 (by kernel_rfl) (by kernel_rfl) ?_
            intro W65 H_ HK_
            simp only [List.take_succ_cons, List.take_zero, List.drop_succ_cons, List.drop_zero]
            replace HS : St W (owns [blk gc [.int .i64 0, .int .i64 0, .int .i64 0, .int .i64 0, .int .i64 0, .int .i64 0, .int .i64 k0] tc]) W65 [blk g51 [.int .i64 ((gx arcs (rdI (idxs (keys false arcs) (rdI xs 0)) q)).1), .int .i64 ((gx arcs (rdI (idxs (keys false arcs) (rdI xs 0)) q)).2)] 35, blk gc [.int .i64 0, .int .i64 0, .int .i64 0, .int .i64 0, .int .i64 0, .int .i64 0, .int .i64 (k0 + (((k2 + 1) : Nat) : Int))] tc, row (some ⟨g48, 0, none⟩) ((idxs (keys false arcs) (rdI xs 0)).length) c42 (ci .i64 (idxs (keys false arcs) (rdI xs 0))) 3 1, blk g28 [.slice A2 q2.length c2, .int .i64 (f2 : Int), .int .i64 (n2 : Int)] 74, row A2 q2.length c2 (ci .i64 q2) 3 1, blk gt_ [.int .i64 v, .slice (some ⟨gd_, 0, none⟩) N N, .slice (some ⟨gb_, 0, none⟩) N N] 72, row (some ⟨gd_, 0, none⟩) N N (ci .i64 ds2) 3 1, row (some ⟨gb_, 0, none⟩) N N (ci .i64 bs2) 3 1] := H_
            clear H_
            clear HK_
            refine qs (.pointer (some ⟨gt_, 0, none⟩)) (by kernel_rfl) (by kernel_rfl) ?_
            refine qs (.pointer (some ⟨gt_, 0, none⟩)) (by kernel_rfl) (by kernel_rfl) ?_
            refine qs (.pointer (some ⟨gt_, 1, none⟩)) (by kernel_rfl) (by kernel_rfl) ?_
            refine qs (.slice (some ⟨gd_, 0, none⟩) N N) (by kernel_rfl) (R_load (p := ⟨gt_, 1, none⟩) (by kernel_rfl) (by kernel_rfl) (by kernel_rfl) (HS.cell (i := 5) (j := 1) rfl rfl)) ?_
            refine qs (.pointer (some ⟨g51, 1, none⟩)) (by kernel_rfl) (by kernel_rfl) ?_
            refine qs (.int .i64 ((gx arcs (rdI (idxs (keys false arcs) (rdI xs 0)) q)).2)) (by kernel_rfl) (R_load (p := ⟨g51, 1, none⟩) (by kernel_rfl) (by kernel_rfl) (by kernel_rfl) (HS.cell (i := 0) (j := 1) rfl rfl)) ?_
            refine qs (.pointer (some ⟨gd_, ((gx arcs (rdI (idxs (keys false arcs) (rdI xs 0)) q)).2).toNat, none⟩)) (by kernel_rfl) (R_index1 (k := .i64) (g := gd_) (n := N) (c := N) (i := (gx arcs (rdI (idxs (keys false arcs) (rdI xs 0)) q)).2) (by kernel_rfl) (by kernel_rfl) Try.underlying28 (by kernel_rfl) (by omega) (by omega)) ?_
            refine qs (.int .i64 (rdI ds2 ((gx arcs (rdI (idxs (keys false arcs) (rdI xs 0)) q)).2))) (by kernel_rfl) (R_load (p := ⟨gd_, ((gx arcs (rdI (idxs (keys false arcs) (rdI xs 0)) q)).2).toNat, none⟩) (by kernel_rfl) (by kernel_rfl) (by kernel_rfl) (HS.rcell (i := 6) rfl (ci_rd (by omega) (by omega)))) ?_
            refine qs (.pointer (some ⟨gt_, 0, none⟩)) (by kernel_rfl) (by kernel_rfl) ?_
            refine qs (.pointer (some ⟨gt_, 0, none⟩)) (by kernel_rfl) (by kernel_rfl) ?_
            refine qs (.pointer (some ⟨gt_, 1, none⟩)) (by kernel_rfl) (by kernel_rfl) ?_
            refine qs (.slice (some ⟨gd_, 0, none⟩) N N) (by kernel_rfl) (R_load (p := ⟨gt_, 1, none⟩) (by kernel_rfl) (by kernel_rfl) (by kernel_rfl) (HS.cell (i := 5) (j := 1) rfl rfl)) ?_
            refine qs (.int .i64 (rdI xs 0)) (by kernel_rfl) (by kernel_rfl) ?_
            refine qs (.pointer (some ⟨gd_, (rdI xs 0).toNat, none⟩)) (by kernel_rfl) (R_index1 (k := .i64) (g := gd_) (n := N) (c := N) (i := (rdI xs 0)) (by kernel_rfl) (by kernel_rfl) Try.underlying28 (by kernel_rfl) (by omega) (by omega)) ?_
            refine qs (.int .i64 (rdI ds2 (rdI xs 0))) (by kernel_rfl) (R_load (p := ⟨gd_, (rdI xs 0).toNat, none⟩) (by kernel_rfl) (by kernel_rfl) (by kernel_rfl) (HS.rcell (i := 6) rfl (ci_rd (by omega) (by omega)))) ?_
            refine qs (.int .i64 ((rdI ds2 (rdI xs 0)) + 1)) (by kernel_rfl) (R_int (by kernel_rfl) (w64 (by omega))) ?_
            by_cases hc66 : (rdI ds2 ((gx arcs (rdI (idxs (keys false arcs) (rdI xs 0)) q)).2)) = ((rdI ds2 (rdI xs 0)) + 1)
            · skip
              refine qs (.bool true) (by kernel_rfl) (R_beq (b := (rdI ds2 ((gx arcs (rdI (idxs (keys false arcs) (rdI xs 0)) q)).2) == (rdI ds2 (rdI xs 0)) + 1)) (by kernel_rfl) (beq_t (hc66))) ?_
              refine wpStill_nil ?_
              refine ql (.bool true) (by kernel_rfl) (by kernel_rfl) ?_
              refine wpList_nil ?_
              refine x_then ?_
              refine wp_cond_true (by kernel_rfl) ?_
              refine rg_still HS 17 (by kernel_rfl) (by kernel_rfl) ?_
              intro W67 H_ HK_
              simp only [List.take_succ_cons, List.take_zero, List.drop_succ_cons, List.drop_zero]
              replace HS : St W (owns [blk gc [.int .i64 0, .int .i64 0, .int .i64 0, .int .i64 0, .int .i64 0, .int .i64 0, .int .i64 k0] tc]) W67 [blk g51 [.int .i64 ((gx arcs (rdI (idxs (keys false arcs) (rdI xs 0)) q)).1), .int .i64 ((gx arcs (rdI (idxs (keys false arcs) (rdI xs 0)) q)).2)] 35, blk gc [.int .i64 0, .int .i64 0, .int .i64 0, .int .i64 0, .int .i64 0, .int .i64 0, .int .i64 (k0 + (((k2 + 1) : Nat) : Int))] tc, row (some ⟨g48, 0, none⟩) ((idxs (keys false arcs) (rdI xs 0)).length) c42 (ci .i64 (idxs (keys false arcs) (rdI xs 0))) 3 1, blk g28 [.slice A2 q2.length c2, .int .i64 (f2 : Int), .int .i64 (n2 : Int)] 74, row A2 q2.length c2 (ci .i64 q2) 3 1, blk gt_ [.int .i64 v, .slice (some ⟨gd_, 0, none⟩) N N, .slice (some ⟨gb_, 0, none⟩) N N] 72, row (some ⟨gd_, 0, none⟩) N N (ci .i64 ds2) 3 1, row (some ⟨gb_, 0, none⟩) N N (ci .i64 bs2) 3 1] := H_
              clear H_
              clear HK_
              refine qs (.pointer (some ⟨gt_, 0, none⟩)) (by kernel_rfl) (by kernel_rfl) ?_
              refine qs (.pointer (some ⟨gt_, 0, none⟩)) (by kernel_rfl) (by kernel_rfl) ?_
              refine qs (.pointer (some ⟨gt_, 2, none⟩)) (by kernel_rfl) (by kernel_rfl) ?_
              refine qs (.slice (some ⟨gb_, 0, none⟩) N N) (by kernel_rfl) (R_load (p := ⟨gt_, 2, none⟩) (by kernel_rfl) (by kernel_rfl) (by kernel_rfl) (HS.cell (i := 5) (j := 2) rfl rfl)) ?_
              refine qs (.pointer (some ⟨g51, 1, none⟩)) (by kernel_rfl) (by kernel_rfl) ?_
              refine qs (.int .i64 ((gx arcs (rdI (idxs (keys false arcs) (rdI xs 0)) q)).2)) (by kernel_rfl) (R_load (p := ⟨g51, 1, none⟩) (by kernel_rfl) (by kernel_rfl) (by kernel_rfl) (HS.cell (i := 0) (j := 1) rfl rfl)) ?_
              refine qs (.pointer (some ⟨gt_, 0, none⟩)) (by kernel_rfl) (by kernel_rfl) ?_
              refine qs (.pointer (some ⟨gt_, 0, none⟩)) (by kernel_rfl) (by kernel_rfl) ?_
              refine qs (.pointer (some ⟨gt_, 2, none⟩)) (by kernel_rfl) (by kernel_rfl) ?_
              refine qs (.slice (some ⟨gb_, 0, none⟩) N N) (by kernel_rfl) (R_load (p := ⟨gt_, 2, none⟩) (by kernel_rfl) (by kernel_rfl) (by kernel_rfl) (HS.cell (i := 5) (j := 2) rfl rfl)) ?_
              refine qs (.pointer (some ⟨g51, 1, none⟩)) (by kernel_rfl) (by kernel_rfl) ?_
              refine qs (.int .i64 ((gx arcs (rdI (idxs (keys false arcs) (rdI xs 0)) q)).2)) (by kernel_rfl) (R_load (p := ⟨g51, 1, none⟩) (by kernel_rfl) (by kernel_rfl) (by kernel_rfl) (HS.cell (i := 0) (j := 1) rfl rfl)) ?_
              refine qs (.pointer (some ⟨gb_, ((gx arcs (rdI (idxs (keys false arcs) (rdI xs 0)) q)).2).toNat, none⟩)) (by kernel_rfl) (R_index1 (k := .i64) (g := gb_) (n := N) (c := N) (i := (gx arcs (rdI (idxs (keys false arcs) (rdI xs 0)) q)).2) (by kernel_rfl) (by kernel_rfl) Try.underlying28 (by kernel_rfl) (by omega) (by omega)) ?_
              refine qs (.int .i64 (rdI bs2 ((gx arcs (rdI (idxs (keys false arcs) (rdI xs 0)) q)).2))) (by kernel_rfl) (R_load (p := ⟨gb_, ((gx arcs (rdI (idxs (keys false arcs) (rdI xs 0)) q)).2).toNat, none⟩) (by kernel_rfl) (by kernel_rfl) (by kernel_rfl) (HS.rcell (i := 7) rfl (ci_rd (by omega) (by omega)))) ?_
              refine qs (.int .i64 (rdI (idxs (keys false arcs) (rdI xs 0)) q)) (by kernel_rfl) (by kernel_rfl) ?_
              refine qs (.int .i64 (min (rdI bs2 ((gx arcs (rdI (idxs (keys false arcs) (rdI xs 0)) q)).2)) (rdI (idxs (keys false arcs) (rdI xs 0)) q))) (by kernel_rfl) (R_min (i := rdI bs2 ((gx arcs (rdI (idxs (keys false arcs) (rdI xs 0)) q)).2)) (j := rdI (idxs (keys false arcs) (rdI xs 0)) q) (by kernel_rfl) (by kernel_rfl)) ?_
              refine qs (.pointer (some ⟨gb_, ((gx arcs (rdI (idxs (keys false arcs) (rdI xs 0)) q)).2).toNat, none⟩)) (by kernel_rfl) (R_index1 (k := .i64) (g := gb_) (n := N) (c := N) (i := (gx arcs (rdI (idxs (keys false arcs) (rdI xs 0)) q)).2) (by kernel_rfl) (by kernel_rfl) Try.underlying28 (by kernel_rfl) (by omega) (by omega)) ?_
              refine wpStill_nil ?_
              refine kr (v := .int .i64 (min (rdI bs2 ((gx arcs (rdI (idxs (keys false arcs) (rdI xs 0)) q)).2)) (rdI (idxs (keys false arcs) (rdI xs 0)) q))) HS 7 rfl (((gx arcs (rdI (idxs (keys false arcs) (rdI xs 0)) q)).2).toNat) [.int .i64 (min (rdI bs2 ((gx arcs (rdI (idxs (keys false arcs) (rdI xs 0)) q)).2)) (rdI (idxs (keys false arcs) (rdI xs 0)) q))] (by kernel_rfl) (by kernel_rfl) (by kernel_rfl) (by kernel_rfl) (by kernel_rfl) (one_ (by kernel_rfl)) (by rw [ci_len]; first | omega | (simp only [List.length_singleton]; omega)) rfl ?_
              intro W68 H_
              obtain ⟨xs69, xs69_⟩ : ∃ z_ : List Int, z_ = (bs2).set ((gx arcs (rdI (idxs (keys false arcs) (rdI xs 0)) q)).2).toNat (min (rdI bs2 ((gx arcs (rdI (idxs (keys false arcs) (rdI xs 0)) q)).2)) (rdI (idxs (keys false arcs) (rdI xs 0)) q)) := ⟨_, rfl⟩
              replace HS : St W (owns [blk gc [.int .i64 0, .int .i64 0, .int .i64 0, .int .i64 0, .int .i64 0, .int .i64 0, .int .i64 k0] tc]) W68 [blk g51 [.int .i64 ((gx arcs (rdI (idxs (keys false arcs) (rdI xs 0)) q)).1), .int .i64 ((gx arcs (rdI (idxs (keys false arcs) (rdI xs 0)) q)).2)] 35, blk gc [.int .i64 0, .int .i64 0, .int .i64 0, .int .i64 0, .int .i64 0, .int .i64 0, .int .i64 (k0 + (((k2 + 1) : Nat) : Int))] tc, row (some ⟨g48, 0, none⟩) ((idxs (keys false arcs) (rdI xs 0)).length) c42 (ci .i64 (idxs (keys false arcs) (rdI xs 0))) 3 1, blk g28 [.slice A2 q2.length c2, .int .i64 (f2 : Int), .int .i64 (n2 : Int)] 74, row A2 q2.length c2 (ci .i64 q2) 3 1, blk gt_ [.int .i64 v, .slice (some ⟨gd_, 0, none⟩) N N, .slice (some ⟨gb_, 0, none⟩) N N] 72, row (some ⟨gd_, 0, none⟩) N N (ci .i64 ds2) 3 1, row (some ⟨gb_, 0, none⟩) N N (ci .i64 xs69) 3 1] := H_.cast_ (by rw [xs69_, ← ci_set]; rfl)
              clear H_
              have xs69l : xs69.length = N := by rw [xs69_, List.length_set]; first | done | omega
              refine wpList_nil ?_
              refine x_inb ?_
              refine x_inb ?_
              refine x_then ?_
              refine wp_region_lit ?_
              refine ql (.int .i64 (q + 1)) (by kernel_rfl) (R_int (by kernel_rfl) (w64 (by omega))) ?_
              refine ql (.int .i64 (q + 1)) (by kernel_rfl) (by kernel_rfl) ?_
              refine wpList_nil ?_
              replace HS : St W (owns [blk gc [.int .i64 0, .int .i64 0, .int .i64 0, .int .i64 0, .int .i64 0, .int .i64 0, .int .i64 k0] tc]) W68 [row (some ⟨g48, 0, none⟩) ((idxs (keys false arcs) (rdI xs 0)).length) c42 (ci .i64 (idxs (keys false arcs) (rdI xs 0))) 3 1, blk g28 [.slice A2 q2.length c2, .int .i64 (f2 : Int), .int .i64 (n2 : Int)] 74, row A2 q2.length c2 (ci .i64 q2) 3 1, blk gt_ [.int .i64 v, .slice (some ⟨gd_, 0, none⟩) N N, .slice (some ⟨gb_, 0, none⟩) N N] 72, row (some ⟨gd_, 0, none⟩) N N (ci .i64 ds2) 3 1, row (some ⟨gb_, 0, none⟩) N N (ci .i64 xs69) 3 1, blk gc [.int .i64 0, .int .i64 0, .int .i64 0, .int .i64 0, .int .i64 0, .int .i64 0, .int .i64 (k0 + (((k2 + 1) : Nat) : Int))] tc] := St.tail (F := [blk g51 [.int .i64 ((gx arcs (rdI (idxs (keys false arcs) (rdI xs 0)) q)).1), .int .i64 ((gx arcs (rdI (idxs (keys false arcs) (rdI xs 0)) q)).2)] 35]) (HS.perm (perm_ [0, 2, 3, 4, 5, 6, 7, 1] (by kernel_rfl) rfl))
              have hst := bq_min hF hB2 hJ q0 (by omega) rfl hc66 xs69_
              refine x_then ?_
              exact ⟨(idxs (keys false arcs) (rdI xs 0)).length - (q + 1).toNat, by omega, (fun k_ : Nat => List.getD ((.pointer (some ⟨g, 0, none⟩)) :: (.int .i64 v) :: (.pointer (some ⟨gc, 0, none⟩)) :: undef :: undef :: undef :: (.pointer none) :: (.int .i64 (N : Int)) :: (.pointer (some ⟨gt_, 0, none⟩)) :: ((J17 9)) :: (.pointer (some ⟨g28, 0, none⟩)) :: (.int .i64 (rdI xs 0)) :: (.bool true) :: undef :: (.int .i64 (rdI (idxs (keys false arcs) (rdI xs 0)) q)) :: (.pointer (some ⟨g51, 0, none⟩)) :: (.bool true) :: (.pointer (some ⟨g, 0, none⟩)) :: (.int .i64 (N : Int)) :: ((u2 19)) :: ((u2 20)) :: ((u2 21)) :: ((u2 22)) :: ((u2 23)) :: ((u2 24)) :: ((u2 25)) :: (.int .i64 (N : Int)) :: (.int .i64 w) :: (.bool false) :: ((J17 29)) :: ((J17 30)) :: ((J17 31)) :: ((J17 32)) :: ((J17 33)) :: ((J17 34)) :: ((J17 35)) :: ((J17 36)) :: ((J17 37)) :: ((J17 38)) :: ((J17 39)) :: ((J17 40)) :: ((J17 41)) :: ((J17 42)) :: (.int .i64 v) :: (.bool false) :: (.bool false) :: (.int .i64 v) :: (.int .i64 (N : Int)) :: (.bool false) :: (.bool false) :: undef :: (.pointer (some ⟨gt_, 0, none⟩)) :: (.pointer (some ⟨gt_, 0, none⟩)) :: (.pointer (some ⟨gt_, 1, none⟩)) :: (.slice (some ⟨gd_, 0, none⟩) N N) :: (.int .i64 v) :: (.pointer (some ⟨gd_, v.toNat, none⟩)) :: (.int .i64 v) :: (.slice (some ⟨g30, 0, none⟩) 1 1) :: (.tuple #[]) :: (.int .i64 (nq : Int)) :: (.bool true) :: (.tuple #[.int .i64 (rdI xs 0), .bool true]) :: (.tuple #[.int .i64 (rdI xs 0), .bool true]) :: (.int .i64 (rdI xs 0)) :: (.bool true) :: (.pointer (some ⟨gc, 0, none⟩)) :: (.tuple #[]) :: (.pointer (some ⟨g, 0, none⟩)) :: (.int .i64 (rdI xs 0)) :: (.slice (some ⟨g48, 0, none⟩) ((idxs (keys false arcs) (rdI xs 0)).length) c42) :: (.int .i64 ((idxs (keys false arcs) (rdI xs 0)).length : Int)) :: (.int .i64 (q + 1)) :: (.bool true) :: (.pointer (some ⟨g48, q.toNat, none⟩)) :: (.int .i64 (rdI (idxs (keys false arcs) (rdI xs 0)) q)) :: (.pointer (some ⟨gc, 0, none⟩)) :: (.tuple #[]) :: (.tuple #[.agg #[.int .i64 ((gx arcs (rdI (idxs (keys false arcs) (rdI xs 0)) q)).1), .int .i64 ((gx arcs (rdI (idxs (keys false arcs) (rdI xs 0)) q)).2)], .bool true]) :: (.pointer (some ⟨g, 0, none⟩)) :: (.int .i64 (rdI (idxs (keys false arcs) (rdI xs 0)) q)) :: (.tuple #[.agg #[.int .i64 ((gx arcs (rdI (idxs (keys false arcs) (rdI xs 0)) q)).1), .int .i64 ((gx arcs (rdI (idxs (keys false arcs) (rdI xs 0)) q)).2)], .bool true]) :: (.agg #[.int .i64 ((gx arcs (rdI (idxs (keys false arcs) (rdI xs 0)) q)).1), .int .i64 ((gx arcs (rdI (idxs (keys false arcs) (rdI xs 0)) q)).2)]) :: (.bool true) :: (.bool false) :: (.pointer (some ⟨gt_, 0, none⟩)) :: (.pointer (some ⟨gt_, 0, none⟩)) :: (.pointer (some ⟨gt_, 1, none⟩)) :: (.slice (some ⟨gd_, 0, none⟩) N N) :: (.pointer (some ⟨g51, 1, none⟩)) :: (.int .i64 ((gx arcs (rdI (idxs (keys false arcs) (rdI xs 0)) q)).2)) :: (.pointer (some ⟨gd_, ((gx arcs (rdI (idxs (keys false arcs) (rdI xs 0)) q)).2).toNat, none⟩)) :: (.int .i64 (rdI ds2 ((gx arcs (rdI (idxs (keys false arcs) (rdI xs 0)) q)).2))) :: (.bool false) :: ((J44 94)) :: ((J44 95)) :: ((J44 96)) :: ((J44 97)) :: ((J44 98)) :: ((J44 99)) :: ((J44 100)) :: ((J44 101)) :: ((J44 102)) :: ((J44 103)) :: ((J44 104)) :: ((J44 105)) :: ((J44 106)) :: ((J44 107)) :: ((J44 108)) :: ((J44 109)) :: ((J44 110)) :: ((J44 111)) :: ((J44 112)) :: ((J44 113)) :: ((J44 114)) :: ((J44 115)) :: ((J44 116)) :: ((J44 117)) :: ((J44 118)) :: ((J44 119)) :: ((J44 120)) :: (.bool true) :: (.pointer (some ⟨gt_, 0, none⟩)) :: (.pointer (some ⟨gt_, 0, none⟩)) :: (.pointer (some ⟨gt_, 1, none⟩)) :: (.slice (some ⟨gd_, 0, none⟩) N N) :: (.pointer (some ⟨g51, 1, none⟩)) :: (.int .i64 ((gx arcs (rdI (idxs (keys false arcs) (rdI xs 0)) q)).2)) :: (.pointer (some ⟨gd_, ((gx arcs (rdI (idxs (keys false arcs) (rdI xs 0)) q)).2).toNat, none⟩)) :: (.int .i64 (rdI ds2 ((gx arcs (rdI (idxs (keys false arcs) (rdI xs 0)) q)).2))) :: (.pointer (some ⟨gt_, 0, none⟩)) :: (.pointer (some ⟨gt_, 0, none⟩)) :: (.pointer (some ⟨gt_, 1, none⟩)) :: (.slice (some ⟨gd_, 0, none⟩) N N) :: (.int .i64 (rdI xs 0)) :: (.pointer (some ⟨gd_, (rdI xs 0).toNat, none⟩)) :: (.int .i64 (rdI ds2 (rdI xs 0))) :: (.int .i64 ((rdI ds2 (rdI xs 0)) + 1)) :: (.bool true) :: (.pointer (some ⟨gt_, 0, none⟩)) :: (.pointer (some ⟨gt_, 0, none⟩)) :: (.pointer (some ⟨gt_, 2, none⟩)) :: (.slice (some ⟨gb_, 0, none⟩) N N) :: (.pointer (some ⟨g51, 1, none⟩)) :: (.int .i64 ((gx arcs (rdI (idxs (keys false arcs) (rdI xs 0)) q)).2)) :: (.pointer (some ⟨gt_, 0, none⟩)) :: (.pointer (some ⟨gt_, 0, none⟩)) :: (.pointer (some ⟨gt_, 2, none⟩)) :: (.slice (some ⟨gb_, 0, none⟩) N N) :: (.pointer (some ⟨g51, 1, none⟩)) :: (.int .i64 ((gx arcs (rdI (idxs (keys false arcs) (rdI xs 0)) q)).2)) :: (.pointer (some ⟨gb_, ((gx arcs (rdI (idxs (keys false arcs) (rdI xs 0)) q)).2).toNat, none⟩)) :: (.int .i64 (rdI bs2 ((gx arcs (rdI (idxs (keys false arcs) (rdI xs 0)) q)).2))) :: (.int .i64 (rdI (idxs (keys false arcs) (rdI xs 0)) q)) :: (.int .i64 (min (rdI bs2 ((gx arcs (rdI (idxs (keys false arcs) (rdI xs 0)) q)).2)) (rdI (idxs (keys false arcs) (rdI xs 0)) q))) :: (.pointer (some ⟨gb_, ((gx arcs (rdI (idxs (keys false arcs) (rdI xs 0)) q)).2).toNat, none⟩)) :: (.int .i64 (q + 1)) :: undef :: []) k_ undef), q + 1, A2, c2, f2, n2, q2, xs2, ds2, xs69, ((rdI (idxs (keys false arcs) (rdI xs 0)) q) :: G2), (k2 + 1), congrArg Fr (by kernel_rfl), rfl, by omega, by omega, hst.1, hst.2, hr2, hm2, by omega, by omega, (bj_bound hst.1 hst.2).1, HS⟩
            · skip
              refine qs (.bool false) (by kernel_rfl) (R_beq (b := (rdI ds2 ((gx arcs (rdI (idxs (keys false arcs) (rdI xs 0)) q)).2) == (rdI ds2 (rdI xs 0)) + 1)) (by kernel_rfl) (beq_f (hc66))) ?_
              refine wpStill_nil ?_
              refine ql (.bool false) (by kernel_rfl) (by kernel_rfl) ?_
              refine wpList_nil ?_
              refine x_then ?_
              refine wp_cond_false (by kernel_rfl) ?_
              refine wp_skip ?_
              refine x_inb ?_
              refine x_inb ?_
              refine x_then ?_
              refine wp_region_lit ?_
              refine ql (.int .i64 (q + 1)) (by kernel_rfl) (R_int (by kernel_rfl) (w64 (by omega))) ?_
              refine ql (.int .i64 (q + 1)) (by kernel_rfl) (by kernel_rfl) ?_
              refine wpList_nil ?_
              replace HS : St W (owns [blk gc [.int .i64 0, .int .i64 0, .int .i64 0, .int .i64 0, .int .i64 0, .int .i64 0, .int .i64 k0] tc]) W65 [row (some ⟨g48, 0, none⟩) ((idxs (keys false arcs) (rdI xs 0)).length) c42 (ci .i64 (idxs (keys false arcs) (rdI xs 0))) 3 1, blk g28 [.slice A2 q2.length c2, .int .i64 (f2 : Int), .int .i64 (n2 : Int)] 74, row A2 q2.length c2 (ci .i64 q2) 3 1, blk gt_ [.int .i64 v, .slice (some ⟨gd_, 0, none⟩) N N, .slice (some ⟨gb_, 0, none⟩) N N] 72, row (some ⟨gd_, 0, none⟩) N N (ci .i64 ds2) 3 1, row (some ⟨gb_, 0, none⟩) N N (ci .i64 bs2) 3 1, blk gc [.int .i64 0, .int .i64 0, .int .i64 0, .int .i64 0, .int .i64 0, .int .i64 0, .int .i64 (k0 + (((k2 + 1) : Nat) : Int))] tc] := St.tail (F := [blk g51 [.int .i64 ((gx arcs (rdI (idxs (keys false arcs) (rdI xs 0)) q)).1), .int .i64 ((gx arcs (rdI (idxs (keys false arcs) (rdI xs 0)) q)).2)] 35]) (HS.perm (perm_ [0, 2, 3, 4, 5, 6, 7, 1] (by kernel_rfl) rfl))
              have hst := bq_old hF hB2 hJ q0 (by omega) rfl hc55 hc66
              refine x_then ?_
              exact ⟨(idxs (keys false arcs) (rdI xs 0)).length - (q + 1).toNat, by omega, (fun k_ : Nat => List.getD ((.pointer (some ⟨g, 0, none⟩)) :: (.int .i64 v) :: (.pointer (some ⟨gc, 0, none⟩)) :: undef :: undef :: undef :: (.pointer none) :: (.int .i64 (N : Int)) :: (.pointer (some ⟨gt_, 0, none⟩)) :: ((J17 9)) :: (.pointer (some ⟨g28, 0, none⟩)) :: (.int .i64 (rdI xs 0)) :: (.bool true) :: undef :: (.int .i64 (rdI (idxs (keys false arcs) (rdI xs 0)) q)) :: (.pointer (some ⟨g51, 0, none⟩)) :: (.bool true) :: (.pointer (some ⟨g, 0, none⟩)) :: (.int .i64 (N : Int)) :: ((u2 19)) :: ((u2 20)) :: ((u2 21)) :: ((u2 22)) :: ((u2 23)) :: ((u2 24)) :: ((u2 25)) :: (.int .i64 (N : Int)) :: (.int .i64 w) :: (.bool false) :: ((J17 29)) :: ((J17 30)) :: ((J17 31)) :: ((J17 32)) :: ((J17 33)) :: ((J17 34)) :: ((J17 35)) :: ((J17 36)) :: ((J17 37)) :: ((J17 38)) :: ((J17 39)) :: ((J17 40)) :: ((J17 41)) :: ((J17 42)) :: (.int .i64 v) :: (.bool false) :: (.bool false) :: (.int .i64 v) :: (.int .i64 (N : Int)) :: (.bool false) :: (.bool false) :: undef :: (.pointer (some ⟨gt_, 0, none⟩)) :: (.pointer (some ⟨gt_, 0, none⟩)) :: (.pointer (some ⟨gt_, 1, none⟩)) :: (.slice (some ⟨gd_, 0, none⟩) N N) :: (.int .i64 v) :: (.pointer (some ⟨gd_, v.toNat, none⟩)) :: (.int .i64 v) :: (.slice (some ⟨g30, 0, none⟩) 1 1) :: (.tuple #[]) :: (.int .i64 (nq : Int)) :: (.bool true) :: (.tuple #[.int .i64 (rdI xs 0), .bool true]) :: (.tuple #[.int .i64 (rdI xs 0), .bool true]) :: (.int .i64 (rdI xs 0)) :: (.bool true) :: (.pointer (some ⟨gc, 0, none⟩)) :: (.tuple #[]) :: (.pointer (some ⟨g, 0, none⟩)) :: (.int .i64 (rdI xs 0)) :: (.slice (some ⟨g48, 0, none⟩) ((idxs (keys false arcs) (rdI xs 0)).length) c42) :: (.int .i64 ((idxs (keys false arcs) (rdI xs 0)).length : Int)) :: (.int .i64 (q + 1)) :: (.bool true) :: (.pointer (some ⟨g48, q.toNat, none⟩)) :: (.int .i64 (rdI (idxs (keys false arcs) (rdI xs 0)) q)) :: (.pointer (some ⟨gc, 0, none⟩)) :: (.tuple #[]) :: (.tuple #[.agg #[.int .i64 ((gx arcs (rdI (idxs (keys false arcs) (rdI xs 0)) q)).1), .int .i64 ((gx arcs (rdI (idxs (keys false arcs) (rdI xs 0)) q)).2)], .bool true]) :: (.pointer (some ⟨g, 0, none⟩)) :: (.int .i64 (rdI (idxs (keys false arcs) (rdI xs 0)) q)) :: (.tuple #[.agg #[.int .i64 ((gx arcs (rdI (idxs (keys false arcs) (rdI xs 0)) q)).1), .int .i64 ((gx arcs (rdI (idxs (keys false arcs) (rdI xs 0)) q)).2)], .bool true]) :: (.agg #[.int .i64 ((gx arcs (rdI (idxs (keys false arcs) (rdI xs 0)) q)).1), .int .i64 ((gx arcs (rdI (idxs (keys false arcs) (rdI xs 0)) q)).2)]) :: (.bool true) :: (.bool false) :: (.pointer (some ⟨gt_, 0, none⟩)) :: (.pointer (some ⟨gt_, 0, none⟩)) :: (.pointer (some ⟨gt_, 1, none⟩)) :: (.slice (some ⟨gd_, 0, none⟩) N N) :: (.pointer (some ⟨g51, 1, none⟩)) :: (.int .i64 ((gx arcs (rdI (idxs (keys false arcs) (rdI xs 0)) q)).2)) :: (.pointer (some ⟨gd_, ((gx arcs (rdI (idxs (keys false arcs) (rdI xs 0)) q)).2).toNat, none⟩)) :: (.int .i64 (rdI ds2 ((gx arcs (rdI (idxs (keys false arcs) (rdI xs 0)) q)).2))) :: (.bool false) :: ((J44 94)) :: ((J44 95)) :: ((J44 96)) :: ((J44 97)) :: ((J44 98)) :: ((J44 99)) :: ((J44 100)) :: ((J44 101)) :: ((J44 102)) :: ((J44 103)) :: ((J44 104)) :: ((J44 105)) :: ((J44 106)) :: ((J44 107)) :: ((J44 108)) :: ((J44 109)) :: ((J44 110)) :: ((J44 111)) :: ((J44 112)) :: ((J44 113)) :: ((J44 114)) :: ((J44 115)) :: ((J44 116)) :: ((J44 117)) :: ((J44 118)) :: ((J44 119)) :: ((J44 120)) :: (.bool false) :: (.pointer (some ⟨gt_, 0, none⟩)) :: (.pointer (some ⟨gt_, 0, none⟩)) :: (.pointer (some ⟨gt_, 1, none⟩)) :: (.slice (some ⟨gd_, 0, none⟩) N N) :: (.pointer (some ⟨g51, 1, none⟩)) :: (.int .i64 ((gx arcs (rdI (idxs (keys false arcs) (rdI xs 0)) q)).2)) :: (.pointer (some ⟨gd_, ((gx arcs (rdI (idxs (keys false arcs) (rdI xs 0)) q)).2).toNat, none⟩)) :: (.int .i64 (rdI ds2 ((gx arcs (rdI (idxs (keys false arcs) (rdI xs 0)) q)).2))) :: (.pointer (some ⟨gt_, 0, none⟩)) :: (.pointer (some ⟨gt_, 0, none⟩)) :: (.pointer (some ⟨gt_, 1, none⟩)) :: (.slice (some ⟨gd_, 0, none⟩) N N) :: (.int .i64 (rdI xs 0)) :: (.pointer (some ⟨gd_, (rdI xs 0).toNat, none⟩)) :: (.int .i64 (rdI ds2 (rdI xs 0))) :: (.int .i64 ((rdI ds2 (rdI xs 0)) + 1)) :: (.bool false) :: ((J44 139)) :: ((J44 140)) :: ((J44 141)) :: ((J44 142)) :: ((J44 143)) :: ((J44 144)) :: ((J44 145)) :: ((J44 146)) :: ((J44 147)) :: ((J44 148)) :: ((J44 149)) :: ((J44 150)) :: ((J44 151)) :: ((J44 152)) :: ((J44 153)) :: ((J44 154)) :: ((J44 155)) :: (.int .i64 (q + 1)) :: undef :: []) k_ undef), q + 1, A2, c2, f2, n2, q2, xs2, ds2, bs2, ((rdI (idxs (keys false arcs) (rdI xs 0)) q) :: G2), (k2 + 1), congrArg Fr (by kernel_rfl), rfl, by omega, by omega, hst.1, hst.2, hr2, hm2, by omega, by omega, (bj_bound hst.1 hst.2).1, HS⟩
        · skip
          refine ql (.bool false) (by kernel_rfl) (R_nbool (p := q < ((idxs (keys false arcs) (rdI xs 0)).length : Int)) (by kernel_rfl) (hc47)) ?_
          refine wpList_nil ?_
          refine x_then ?_
          refine wp_seq ?_
          refine wp_cond_false (by kernel_rfl) ?_
          refine wp_exit ?_
          refine x_thenE ?_
          refine x_thenE ?_
          refine x_hit ?_
          refine x_inb ?_
          replace HS := HS.drop1
          have hQ9 := qj_end hJ (by omega)
          refine x_then ?_
          exact ⟨(xs2).length + ng ds2, by omega, (fun k_ : Nat => List.getD ((.pointer (some ⟨g, 0, none⟩)) :: (.int .i64 v) :: (.pointer (some ⟨gc, 0, none⟩)) :: undef :: undef :: undef :: (.pointer none) :: (.int .i64 (N : Int)) :: (.pointer (some ⟨gt_, 0, none⟩)) :: ((J17 9)) :: (.pointer (some ⟨g28, 0, none⟩)) :: (.int .i64 (rdI xs 0)) :: (.bool true) :: undef :: ((J44 14)) :: ((J44 15)) :: ((J44 16)) :: (.pointer (some ⟨g, 0, none⟩)) :: (.int .i64 (N : Int)) :: ((u2 19)) :: ((u2 20)) :: ((u2 21)) :: ((u2 22)) :: ((u2 23)) :: ((u2 24)) :: ((u2 25)) :: (.int .i64 (N : Int)) :: (.int .i64 w) :: (.bool false) :: ((J17 29)) :: ((J17 30)) :: ((J17 31)) :: ((J17 32)) :: ((J17 33)) :: ((J17 34)) :: ((J17 35)) :: ((J17 36)) :: ((J17 37)) :: ((J17 38)) :: ((J17 39)) :: ((J17 40)) :: ((J17 41)) :: ((J17 42)) :: (.int .i64 v) :: (.bool false) :: (.bool false) :: (.int .i64 v) :: (.int .i64 (N : Int)) :: (.bool false) :: (.bool false) :: undef :: (.pointer (some ⟨gt_, 0, none⟩)) :: (.pointer (some ⟨gt_, 0, none⟩)) :: (.pointer (some ⟨gt_, 1, none⟩)) :: (.slice (some ⟨gd_, 0, none⟩) N N) :: (.int .i64 v) :: (.pointer (some ⟨gd_, v.toNat, none⟩)) :: (.int .i64 v) :: (.slice (some ⟨g30, 0, none⟩) 1 1) :: (.tuple #[]) :: (.int .i64 (nq : Int)) :: (.bool true) :: (.tuple #[.int .i64 (rdI xs 0), .bool true]) :: (.tuple #[.int .i64 (rdI xs 0), .bool true]) :: (.int .i64 (rdI xs 0)) :: (.bool true) :: (.pointer (some ⟨gc, 0, none⟩)) :: (.tuple #[]) :: (.pointer (some ⟨g, 0, none⟩)) :: (.int .i64 (rdI xs 0)) :: (.slice A41 ((idxs (keys false arcs) (rdI xs 0)).length) c42) :: (.int .i64 ((idxs (keys false arcs) (rdI xs 0)).length : Int)) :: (.int .i64 q) :: (.bool false) :: ((J44 74)) :: ((J44 75)) :: ((J44 76)) :: ((J44 77)) :: ((J44 78)) :: ((J44 79)) :: ((J44 80)) :: ((J44 81)) :: ((J44 82)) :: ((J44 83)) :: ((J44 84)) :: ((J44 85)) :: ((J44 86)) :: ((J44 87)) :: ((J44 88)) :: ((J44 89)) :: ((J44 90)) :: ((J44 91)) :: ((J44 92)) :: ((J44 93)) :: ((J44 94)) :: ((J44 95)) :: ((J44 96)) :: ((J44 97)) :: ((J44 98)) :: ((J44 99)) :: ((J44 100)) :: ((J44 101)) :: ((J44 102)) :: ((J44 103)) :: ((J44 104)) :: ((J44 105)) :: ((J44 106)) :: ((J44 107)) :: ((J44 108)) :: ((J44 109)) :: ((J44 110)) :: ((J44 111)) :: ((J44 112)) :: ((J44 113)) :: ((J44 114)) :: ((J44 115)) :: ((J44 116)) :: ((J44 117)) :: ((J44 118)) :: ((J44 119)) :: ((J44 120)) :: ((J44 121)) :: ((J44 122)) :: ((J44 123)) :: ((J44 124)) :: ((J44 125)) :: ((J44 126)) :: ((J44 127)) :: ((J44 128)) :: ((J44 129)) :: ((J44 130)) :: ((J44 131)) :: ((J44 132)) :: ((J44 133)) :: ((J44 134)) :: ((J44 135)) :: ((J44 136)) :: ((J44 137)) :: ((J44 138)) :: ((J44 139)) :: ((J44 140)) :: ((J44 141)) :: ((J44 142)) :: ((J44 143)) :: ((J44 144)) :: ((J44 145)) :: ((J44 146)) :: ((J44 147)) :: ((J44 148)) :: ((J44 149)) :: ((J44 150)) :: ((J44 151)) :: ((J44 152)) :: ((J44 153)) :: ((J44 154)) :: ((J44 155)) :: ((J44 156)) :: undef :: []) k_ undef), A2, c2, f2, n2, q2, xs2, ds2, bs2, G2, k2, congrArg Fr (by kernel_rfl), rfl, hB2, hQ9, hr2, hdl2, hbl2, (bq_bound hB2 hQ9).1, HS⟩
      · skip
        refine ql (.bool false) (by kernel_rfl) (R_nbool (p := (nq : Int) > (0 : Int)) (by kernel_rfl) (hc38)) ?_
        refine wpList_nil ?_
        refine x_then ?_
        refine wp_cond_false (by kernel_rfl) ?_
        refine wp_exit ?_
        refine x_thenE ?_
        refine x_thenE ?_
        refine x_hit ?_
        refine x_then ?_
        refine wp_seq ?_
        refine wp_region_lit ?_
        refine ql (.pointer (some ⟨gt_, 0, none⟩)) (by kernel_rfl) (by kernel_rfl) ?_
        refine ql (.pointer (some ⟨gt_, 0, none⟩)) (by kernel_rfl) (by kernel_rfl) ?_
        refine wpList_nil ?_
        refine x_then ?_
        refine wp_ret ?_
        refine ret_ (.pointer (some ⟨gt_, 0, none⟩)) (by kernel_rfl) ?_
        replace HS := HS.drop1
        replace HS := HS.drop1
        have hxl := hr.len
        have hdn := bq_done hB hQ (by omega)
        exact ⟨_, _, _, _, _, _, _, _, rfl, HS, hdn.1, hdn.2, (bq_bound hB hQ).1⟩

set_option maxRecDepth 100000 in
set_option maxHeartbeats 1000000 in
theorem from_no_c (g N : Nat) (arcs : List (Int × Int)) (v : Int) (gc tc : Nat) (k0 : Int) (W0 W : World) (hG : GAt W0 g N arcs) (hB0 : Below W0.heap.size W0 W) (hgc : W0.heap.size ≤ gc) (HS : St W (owns [blk gc [.int .i64 0, .int .i64 0, .int .i64 0, .int .i64 0, .int .i64 0, .int .i64 0, .int .i64 k0] tc]) W [blk gc [.int .i64 0, .int .i64 0, .int .i64 0, .int .i64 0, .int .i64 0, .int .i64 0, .int .i64 k0] tc]) (hk0 : 0 ≤ k0) (hk9 : k0 ≤ 1099511627776) (hN : N ≤ 1048576) (hm : arcs.length ≤ 67108864) (hv : ¬ (0 ≤ v ∧ v < N)) : Calls Try.prog 30 #[.pointer (some ⟨g, 0, none⟩), .int .i64 v, .pointer (some ⟨gc, 0, none⟩)] W fun e W' => ∃ (t : Nat) (D B : Option Addr) (cd cb : Nat) (ds bs : List Int) (k : Nat), e = .returned (.pointer (some ⟨t, 0, none⟩)) ∧ St W (owns [blk gc [.int .i64 0, .int .i64 0, .int .i64 0, .int .i64 0, .int .i64 0, .int .i64 0, .int .i64 k0] tc]) W' [blk t [.int .i64 v, .slice D N cd, .slice B N cb] 72, row D N cd (ci .i64 ds) 3 1, row B N cb (ci .i64 bs) 3 1, blk gc [.int .i64 0, .int .i64 0, .int .i64 0, .int .i64 0, .int .i64 0, .int .i64 0, .int .i64 (k0 + ((k : Nat) : Int))] tc] ∧ DS N arcs v ds ∧ BK N arcs ds bs ∧ k ≤ N + arcs.length := by
  have hF := hG.fine
  refine calls_enter ((.pointer (some ⟨g, 0, none⟩)) :: (.int .i64 v) :: (.pointer (some ⟨gc, 0, none⟩)) :: undef :: undef :: undef :: undef :: undef :: undef :: undef :: undef :: undef :: undef :: undef :: undef :: undef :: undef :: undef :: undef :: undef :: undef :: undef :: undef :: undef :: undef :: undef :: undef :: undef :: undef :: undef :: undef :: undef :: undef :: undef :: undef :: undef :: undef :: undef :: undef :: undef :: undef :: undef :: undef :: undef :: undef :: undef :: undef :: undef :: undef :: undef :: undef :: undef :: undef :: undef :: undef :: undef :: undef :: undef :: undef :: undef :: undef :: undef :: undef :: undef :: undef :: undef :: undef :: undef :: undef :: undef :: undef :: undef :: undef :: undef :: undef :: undef :: undef :: undef :: undef :: undef :: undef :: undef :: undef :: undef :: undef :: undef :: undef :: undef :: undef :: undef :: undef :: undef :: undef :: undef :: undef :: undef :: undef :: undef :: undef :: undef :: undef :: undef :: undef :: undef :: undef :: undef :: undef :: undef :: undef :: undef :: undef :: undef :: undef :: undef :: undef :: undef :: undef :: undef :: undef :: undef :: undef :: undef :: undef :: undef :: undef :: undef :: undef :: undef :: undef :: undef :: undef :: undef :: undef :: undef :: undef :: undef :: undef :: undef :: undef :: undef :: undef :: undef :: undef :: undef :: undef :: undef :: undef :: undef :: undef :: undef :: undef :: undef :: undef :: undef :: undef :: undef :: undef :: undef :: []) Try.func30 rfl (by kernel_rfl) ?_
  refine wp_seq ?_
  refine wp_region_lit ?_
  refine ql (.pointer none) (by kernel_rfl) (by kernel_rfl) ?_
  refine wpList_nil ?_
  refine x_then ?_
  refine wp_seq ?_
  refine wp_region_lit ?_
  refine ql (.pointer (some ⟨g, 0, none⟩)) (by kernel_rfl) (by kernel_rfl) ?_
  refine qc (f := 17) (args := #[.pointer (some ⟨g, 0, none⟩)]) (by kernel_rfl) (R_call #[.pointer (some ⟨g, 0, none⟩)] Try.func17 (by kernel_rfl) (by kernel_rfl) (by kernel_rfl)) ?_
  refine (nodessome g N arcs _ (hG.below (below_gc hB0 HS hgc))).mono ?_
  rintro e W1 ⟨rfl, H_⟩
  refine ⟨_, rfl, ?_⟩
  replace HS : St W (owns [blk gc [.int .i64 0, .int .i64 0, .int .i64 0, .int .i64 0, .int .i64 0, .int .i64 0, .int .i64 k0] tc]) W1 [blk gc [.int .i64 0, .int .i64 0, .int .i64 0, .int .i64 0, .int .i64 0, .int .i64 0, .int .i64 k0] tc] := HS.join (F := []) (G := []) H_
  clear H_
  refine ql (.int .i64 (N : Int)) (by kernel_rfl) (by kernel_rfl) ?_
  refine wpList_nil ?_
  refine x_then ?_
  refine wp_seq_cut (fun a' w' => ∃ (u2 : Nat → Value) (gt_ : Nat) (gd_ : Nat) (gb_ : Nat) , a' = Fr ((.pointer (some ⟨g, 0, none⟩)) :: (.int .i64 v) :: (.pointer (some ⟨gc, 0, none⟩)) :: undef :: undef :: undef :: (.pointer none) :: (.int .i64 (N : Int)) :: (.pointer (some ⟨gt_, 0, none⟩)) :: undef :: undef :: undef :: undef :: undef :: undef :: undef :: undef :: (.pointer (some ⟨g, 0, none⟩)) :: (.int .i64 (N : Int)) :: ((u2 19)) :: ((u2 20)) :: ((u2 21)) :: ((u2 22)) :: ((u2 23)) :: ((u2 24)) :: ((u2 25)) :: undef :: undef :: undef :: undef :: undef :: undef :: undef :: undef :: undef :: undef :: undef :: undef :: undef :: undef :: undef :: undef :: undef :: undef :: undef :: undef :: undef :: undef :: undef :: undef :: undef :: undef :: undef :: undef :: undef :: undef :: undef :: undef :: undef :: undef :: undef :: undef :: undef :: undef :: undef :: undef :: undef :: undef :: undef :: undef :: undef :: undef :: undef :: undef :: undef :: undef :: undef :: undef :: undef :: undef :: undef :: undef :: undef :: undef :: undef :: undef :: undef :: undef :: undef :: undef :: undef :: undef :: undef :: undef :: undef :: undef :: undef :: undef :: undef :: undef :: undef :: undef :: undef :: undef :: undef :: undef :: undef :: undef :: undef :: undef :: undef :: undef :: undef :: undef :: undef :: undef :: undef :: undef :: undef :: undef :: undef :: undef :: undef :: undef :: undef :: undef :: undef :: undef :: undef :: undef :: undef :: undef :: undef :: undef :: undef :: undef :: undef :: undef :: undef :: undef :: undef :: undef :: undef :: undef :: undef :: undef :: undef :: undef :: undef :: undef :: undef :: undef :: undef :: undef :: undef :: undef :: undef :: undef :: []) ∧ St W (owns [blk gc [.int .i64 0, .int .i64 0, .int .i64 0, .int .i64 0, .int .i64 0, .int .i64 0, .int .i64 k0] tc]) w' [blk gt_ [.int .i64 v, .slice (some ⟨gd_, 0, none⟩) N N, .slice (some ⟨gb_, 0, none⟩) N N] 72, row (some ⟨gd_, 0, none⟩) N N (ci .i64 (List.replicate N 0)) 3 1, row (some ⟨gb_, 0, none⟩) N N (ci .i64 (List.replicate N 0)) 3 1, blk gc [.int .i64 0, .int .i64 0, .int .i64 0, .int .i64 0, .int .i64 0, .int .i64 0, .int .i64 k0] tc]) ?_ ?_
  · skip
    refine t_start HS (fun _ => False) 8 (by kernel_rfl) rfl ?_
    intro W3 H_ HD_
    clear HD_
    replace HS : St W (owns [blk gc [.int .i64 0, .int .i64 0, .int .i64 0, .int .i64 0, .int .i64 0, .int .i64 0, .int .i64 k0] tc]) W3 [blk gc [.int .i64 0, .int .i64 0, .int .i64 0, .int .i64 0, .int .i64 0, .int .i64 0, .int .i64 k0] tc] := H_
    clear H_
    have HV := HS
    have HK := Kpt.refl (fun _ => False) W3
    refine t_q (n := 7) 0 (.int .i64 v) rfl (by kernel_rfl) (by kernel_rfl) (fun _ _ _ h => h) (fun w' hk => (by kernel_rfl)) HK ?_
    refine t_q (n := 6) 1 (.int .i64 (N : Int)) rfl (by kernel_rfl) (by kernel_rfl) (fun _ _ _ h => h) (fun w' hk => (by kernel_rfl)) HK ?_
    refine t_q (n := 5) 3 (.int .i64 (N : Int)) rfl (by kernel_rfl) (by kernel_rfl) (fun _ _ _ h => h) (fun w' hk => (by kernel_rfl)) HK ?_
    refine t_pick2 (n := 4) 2 4 (by kernel_rfl) ?_ ?_
    · skip
      obtain ⟨g4, W5, hrun_, H_, hk_⟩ := ex_make (P := Try.prog) (ty := 28) (ps := "bfs.go:20") (af := #[{ on := 1, ground := Go.Ground.data }, { on := 1, ground := Go.Ground.data }]) (gd := none) (dst := some 21) (t := 28) (x := (Go.Operand.tmp 20)) (y := (Go.Operand.tmp 20)) (k1 := .i64) (k2 := .i64) HS (N) [.int .i64 0] 8 (k_eq (m := (N : Int)) (by kernel_rfl) (by omega)) (k_eq (m := (N : Int)) (by kernel_rfl) (by omega)) Try.underlying28 (by kernel_rfl) (by kernel_rfl) (by kernel_rfl) (by decide) (by omega) (by omega)
      refine t_e2 (n := 4) 2 (.slice (some ⟨g4, 0, none⟩) N N) rfl (by kernel_rfl) hrun_ (HK.tr hk_) ?_
      replace HK := HK.tr hk_
      clear hk_
      clear hrun_
      replace HS : St W (owns [blk gc [.int .i64 0, .int .i64 0, .int .i64 0, .int .i64 0, .int .i64 0, .int .i64 0, .int .i64 k0] tc]) W5 [row (some ⟨g4, 0, none⟩) N N (ci .i64 (List.replicate (N) 0)) 3 1, blk gc [.int .i64 0, .int .i64 0, .int .i64 0, .int .i64 0, .int .i64 0, .int .i64 0, .int .i64 k0] tc] := H_.cast_ (by rw [ci_rep]; rfl)
      clear H_
      have rlg4 : (List.replicate (N) (0 : Int)).length = N := List.length_replicate
      obtain ⟨g6, W7, hrun_, H_, hk_⟩ := ex_make (P := Try.prog) (ty := 28) (ps := "bfs.go:20") (af := #[{ on := 3, ground := Go.Ground.data }, { on := 3, ground := Go.Ground.data }]) (gd := none) (dst := some 23) (t := 28) (x := (Go.Operand.tmp 22)) (y := (Go.Operand.tmp 22)) (k1 := .i64) (k2 := .i64) HS (N) [.int .i64 0] 8 (k_eq (m := (N : Int)) (by kernel_rfl) (by omega)) (k_eq (m := (N : Int)) (by kernel_rfl) (by omega)) Try.underlying28 (by kernel_rfl) (by kernel_rfl) (by kernel_rfl) (by decide) (by omega) (by omega)
      refine t_e (n := 3) 4 (.slice (some ⟨g6, 0, none⟩) N N) rfl (by kernel_rfl) (by kernel_rfl) hrun_ (HK.tr hk_) ?_
      replace HK := HK.tr hk_
      clear hk_
      clear hrun_
      replace HS : St W (owns [blk gc [.int .i64 0, .int .i64 0, .int .i64 0, .int .i64 0, .int .i64 0, .int .i64 0, .int .i64 k0] tc]) W7 [row (some ⟨g6, 0, none⟩) N N (ci .i64 (List.replicate (N) 0)) 3 1, row (some ⟨g4, 0, none⟩) N N (ci .i64 (List.replicate (N) 0)) 3 1, blk gc [.int .i64 0, .int .i64 0, .int .i64 0, .int .i64 0, .int .i64 0, .int .i64 0, .int .i64 k0] tc] := H_.cast_ (by rw [ci_rep]; rfl)
      clear H_
      have rlg6 : (List.replicate (N) (0 : Int)).length = N := List.length_replicate
      refine t_q (n := 2) 5 (.agg #[.int .i64 v, .slice (some ⟨g4, 0, none⟩) N N, .slice (some ⟨g6, 0, none⟩) N N]) rfl (by kernel_rfl) (by kernel_rfl) (fun _ _ _ h => h) (fun w' hk => (by kernel_rfl)) HK ?_
      obtain ⟨g8, W9, hg_, hw_, H_, hk_⟩ := ex_blk HS [.int .i64 v, .slice (some ⟨g4, 0, none⟩) N N, .slice (some ⟨g6, 0, none⟩) N N] 72
      refine t_e (n := 1) 6 (.pointer (some ⟨g8, 0, none⟩)) rfl (by kernel_rfl) (by kernel_rfl) (by subst hg_; subst hw_; kernel_rfl) (HK.tr hk_) ?_
      replace HK := HK.tr hk_
      clear hk_
      clear hg_ hw_
      replace HS : St W (owns [blk gc [.int .i64 0, .int .i64 0, .int .i64 0, .int .i64 0, .int .i64 0, .int .i64 0, .int .i64 k0] tc]) W9 [blk g8 [.int .i64 v, .slice (some ⟨g4, 0, none⟩) N N, .slice (some ⟨g6, 0, none⟩) N N] 72, row (some ⟨g6, 0, none⟩) N N (ci .i64 (List.replicate (N) 0)) 3 1, row (some ⟨g4, 0, none⟩) N N (ci .i64 (List.replicate (N) 0)) 3 1, blk gc [.int .i64 0, .int .i64 0, .int .i64 0, .int .i64 0, .int .i64 0, .int .i64 0, .int .i64 k0] tc] := H_
      clear H_
      refine t_q (n := 0) 7 (.pointer (some ⟨g8, 0, none⟩)) rfl (by kernel_rfl) (by kernel_rfl) (fun _ _ _ h => h) (fun w' hk => (by kernel_rfl)) HK ?_
      refine t_done (by kernel_rfl) ?_
      clear HV HK
      replace HS : St W (owns [blk gc [.int .i64 0, .int .i64 0, .int .i64 0, .int .i64 0, .int .i64 0, .int .i64 0, .int .i64 k0] tc]) W9 [blk g8 [.int .i64 v, .slice (some ⟨g4, 0, none⟩) N N, .slice (some ⟨g6, 0, none⟩) N N] 72, row (some ⟨g4, 0, none⟩) N N (ci .i64 (List.replicate (N) 0)) 3 1, row (some ⟨g6, 0, none⟩) N N (ci .i64 (List.replicate (N) 0)) 3 1, blk gc [.int .i64 0, .int .i64 0, .int .i64 0, .int .i64 0, .int .i64 0, .int .i64 0, .int .i64 k0] tc] := HS.perm (perm_ [0, 2, 1, 3] (by kernel_rfl) rfl)
      refine x_then ?_
      exact ⟨(fun k_ : Nat => List.getD ((.pointer (some ⟨g, 0, none⟩)) :: (.int .i64 v) :: (.pointer (some ⟨gc, 0, none⟩)) :: undef :: undef :: undef :: (.pointer none) :: (.int .i64 (N : Int)) :: (.pointer (some ⟨g8, 0, none⟩)) :: undef :: undef :: undef :: undef :: undef :: undef :: undef :: undef :: (.pointer (some ⟨g, 0, none⟩)) :: (.int .i64 (N : Int)) :: (.int .i64 v) :: (.int .i64 (N : Int)) :: (.slice (some ⟨g4, 0, none⟩) N N) :: (.int .i64 (N : Int)) :: (.slice (some ⟨g6, 0, none⟩) N N) :: (.agg #[.int .i64 v, .slice (some ⟨g4, 0, none⟩) N N, .slice (some ⟨g6, 0, none⟩) N N]) :: (.pointer (some ⟨g8, 0, none⟩)) :: undef :: undef :: undef :: undef :: undef :: undef :: undef :: undef :: undef :: undef :: undef :: undef :: undef :: undef :: undef :: undef :: undef :: undef :: undef :: undef :: undef :: undef :: undef :: undef :: undef :: undef :: undef :: undef :: undef :: undef :: undef :: undef :: undef :: undef :: undef :: undef :: undef :: undef :: undef :: undef :: undef :: undef :: undef :: undef :: undef :: undef :: undef :: undef :: undef :: undef :: undef :: undef :: undef :: undef :: undef :: undef :: undef :: undef :: undef :: undef :: undef :: undef :: undef :: undef :: undef :: undef :: undef :: undef :: undef :: undef :: undef :: undef :: undef :: undef :: undef :: undef :: undef :: undef :: undef :: undef :: undef :: undef :: undef :: undef :: undef :: undef :: undef :: undef :: undef :: undef :: undef :: undef :: undef :: undef :: undef :: undef :: undef :: undef :: undef :: undef :: undef :: undef :: undef :: undef :: undef :: undef :: undef :: undef :: undef :: undef :: undef :: undef :: undef :: undef :: undef :: undef :: undef :: undef :: undef :: undef :: undef :: undef :: undef :: undef :: undef :: undef :: undef :: undef :: undef :: undef :: undef :: undef :: []) k_ undef), g8, g4, g6, congrArg Fr (by kernel_rfl), HS⟩
    · skip
      obtain ⟨g10, W11, hrun_, H_, hk_⟩ := ex_make (P := Try.prog) (ty := 28) (ps := "bfs.go:20") (af := #[{ on := 3, ground := Go.Ground.data }, { on := 3, ground := Go.Ground.data }]) (gd := none) (dst := some 23) (t := 28) (x := (Go.Operand.tmp 22)) (y := (Go.Operand.tmp 22)) (k1 := .i64) (k2 := .i64) HS (N) [.int .i64 0] 8 (k_eq (m := (N : Int)) (by kernel_rfl) (by omega)) (k_eq (m := (N : Int)) (by kernel_rfl) (by omega)) Try.underlying28 (by kernel_rfl) (by kernel_rfl) (by kernel_rfl) (by decide) (by omega) (by omega)
      refine t_e2 (n := 4) 4 (.slice (some ⟨g10, 0, none⟩) N N) rfl (by kernel_rfl) hrun_ (HK.tr hk_) ?_
      replace HK := HK.tr hk_
      clear hk_
      clear hrun_
      replace HS : St W (owns [blk gc [.int .i64 0, .int .i64 0, .int .i64 0, .int .i64 0, .int .i64 0, .int .i64 0, .int .i64 k0] tc]) W11 [row (some ⟨g10, 0, none⟩) N N (ci .i64 (List.replicate (N) 0)) 3 1, blk gc [.int .i64 0, .int .i64 0, .int .i64 0, .int .i64 0, .int .i64 0, .int .i64 0, .int .i64 k0] tc] := H_.cast_ (by rw [ci_rep]; rfl)
      clear H_
      have rlg10 : (List.replicate (N) (0 : Int)).length = N := List.length_replicate
      obtain ⟨g12, W13, hrun_, H_, hk_⟩ := ex_make (P := Try.prog) (ty := 28) (ps := "bfs.go:20") (af := #[{ on := 1, ground := Go.Ground.data }, { on := 1, ground := Go.Ground.data }]) (gd := none) (dst := some 21) (t := 28) (x := (Go.Operand.tmp 20)) (y := (Go.Operand.tmp 20)) (k1 := .i64) (k2 := .i64) HS (N) [.int .i64 0] 8 (k_eq (m := (N : Int)) (by kernel_rfl) (by omega)) (k_eq (m := (N : Int)) (by kernel_rfl) (by omega)) Try.underlying28 (by kernel_rfl) (by kernel_rfl) (by kernel_rfl) (by decide) (by omega) (by omega)
      refine t_e (n := 3) 2 (.slice (some ⟨g12, 0, none⟩) N N) rfl (by kernel_rfl) (by kernel_rfl) hrun_ (HK.tr hk_) ?_
      replace HK := HK.tr hk_
      clear hk_
      clear hrun_
      replace HS : St W (owns [blk gc [.int .i64 0, .int .i64 0, .int .i64 0, .int .i64 0, .int .i64 0, .int .i64 0, .int .i64 k0] tc]) W13 [row (some ⟨g12, 0, none⟩) N N (ci .i64 (List.replicate (N) 0)) 3 1, row (some ⟨g10, 0, none⟩) N N (ci .i64 (List.replicate (N) 0)) 3 1, blk gc [.int .i64 0, .int .i64 0, .int .i64 0, .int .i64 0, .int .i64 0, .int .i64 0, .int .i64 k0] tc] := H_.cast_ (by rw [ci_rep]; rfl)
      clear H_
      have rlg12 : (List.replicate (N) (0 : Int)).length = N := List.length_replicate
      refine t_q (n := 2) 5 (.agg #[.int .i64 v, .slice (some ⟨g12, 0, none⟩) N N, .slice (some ⟨g10, 0, none⟩) N N]) rfl (by kernel_rfl) (by kernel_rfl) (fun _ _ _ h => h) (fun w' hk => (by kernel_rfl)) HK ?_
      obtain ⟨g14, W15, hg_, hw_, H_, hk_⟩ := ex_blk HS [.int .i64 v, .slice (some ⟨g12, 0, none⟩) N N, .slice (some ⟨g10, 0, none⟩) N N] 72
      refine t_e (n := 1) 6 (.pointer (some ⟨g14, 0, none⟩)) rfl (by kernel_rfl) (by kernel_rfl) (by subst hg_; subst hw_; kernel_rfl) (HK.tr hk_) ?_
      replace HK := HK.tr hk_
      clear hk_
      clear hg_ hw_
      replace HS : St W (owns [blk gc [.int .i64 0, .int .i64 0, .int .i64 0, .int .i64 0, .int .i64 0, .int .i64 0, .int .i64 k0] tc]) W15 [blk g14 [.int .i64 v, .slice (some ⟨g12, 0, none⟩) N N, .slice (some ⟨g10, 0, none⟩) N N] 72, row (some ⟨g12, 0, none⟩) N N (ci .i64 (List.replicate (N) 0)) 3 1, row (some ⟨g10, 0, none⟩) N N (ci .i64 (List.replicate (N) 0)) 3 1, blk gc [.int .i64 0, .int .i64 0, .int .i64 0, .int .i64 0, .int .i64 0, .int .i64 0, .int .i64 k0] tc] := H_
      clear H_
      refine t_q (n := 0) 7 (.pointer (some ⟨g14, 0, none⟩)) rfl (by kernel_rfl) (by kernel_rfl) (fun _ _ _ h => h) (fun w' hk => (by kernel_rfl)) HK ?_
      refine t_done (by kernel_rfl) ?_
      clear HV HK
      refine x_then ?_
      exact ⟨(fun k_ : Nat => List.getD ((.pointer (some ⟨g, 0, none⟩)) :: (.int .i64 v) :: (.pointer (some ⟨gc, 0, none⟩)) :: undef :: undef :: undef :: (.pointer none) :: (.int .i64 (N : Int)) :: (.pointer (some ⟨g14, 0, none⟩)) :: undef :: undef :: undef :: undef :: undef :: undef :: undef :: undef :: (.pointer (some ⟨g, 0, none⟩)) :: (.int .i64 (N : Int)) :: (.int .i64 v) :: (.int .i64 (N : Int)) :: (.slice (some ⟨g12, 0, none⟩) N N) :: (.int .i64 (N : Int)) :: (.slice (some ⟨g10, 0, none⟩) N N) :: (.agg #[.int .i64 v, .slice (some ⟨g12, 0, none⟩) N N, .slice (some ⟨g10, 0, none⟩) N N]) :: (.pointer (some ⟨g14, 0, none⟩)) :: undef :: undef :: undef :: undef :: undef :: undef :: undef :: undef :: undef :: undef :: undef :: undef :: undef :: undef :: undef :: undef :: undef :: undef :: undef :: undef :: undef :: undef :: undef :: undef :: undef :: undef :: undef :: undef :: undef :: undef :: undef :: undef :: undef :: undef :: undef :: undef :: undef :: undef :: undef :: undef :: undef :: undef :: undef :: undef :: undef :: undef :: undef :: undef :: undef :: undef :: undef :: undef :: undef :: undef :: undef :: undef :: undef :: undef :: undef :: undef :: undef :: undef :: undef :: undef :: undef :: undef :: undef :: undef :: undef :: undef :: undef :: undef :: undef :: undef :: undef :: undef :: undef :: undef :: undef :: undef :: undef :: undef :: undef :: undef :: undef :: undef :: undef :: undef :: undef :: undef :: undef :: undef :: undef :: undef :: undef :: undef :: undef :: undef :: undef :: undef :: undef :: undef :: undef :: undef :: undef :: undef :: undef :: undef :: undef :: undef :: undef :: undef :: undef :: undef :: undef :: undef :: undef :: undef :: undef :: undef :: undef :: undef :: undef :: undef :: undef :: undef :: undef :: undef :: undef :: undef :: undef :: undef :: []) k_ undef), g14, g12, g10, congrArg Fr (by kernel_rfl), HS⟩
  · clear HS
    rintro a' W16 ⟨u2, gt_, gd_, gb_, rfl, HS⟩
    refine wp_seq ?_
    refine wp_seq ?_
    refine wp_region_lit ?_
    refine ql (.int .i64 (N : Int)) (by kernel_rfl) (by kernel_rfl) ?_
    refine ql (.int .i64 0) (by kernel_rfl) (by kernel_rfl) ?_
    refine wpList_nil ?_
    refine x_then ?_
    refine wp_block ?_
    refine wp_loop_ghost (fun kq a' w' => ∃ (J17 : Nat → Value) (w : Int) (ds0 : List Int) (bs0 : List Int) , a' = Fr ((.pointer (some ⟨g, 0, none⟩)) :: (.int .i64 v) :: (.pointer (some ⟨gc, 0, none⟩)) :: undef :: undef :: undef :: (.pointer none) :: (.int .i64 (N : Int)) :: (.pointer (some ⟨gt_, 0, none⟩)) :: ((J17 9)) :: undef :: undef :: undef :: undef :: undef :: undef :: undef :: (.pointer (some ⟨g, 0, none⟩)) :: (.int .i64 (N : Int)) :: ((u2 19)) :: ((u2 20)) :: ((u2 21)) :: ((u2 22)) :: ((u2 23)) :: ((u2 24)) :: ((u2 25)) :: (.int .i64 (N : Int)) :: (.int .i64 w) :: ((J17 28)) :: ((J17 29)) :: ((J17 30)) :: ((J17 31)) :: ((J17 32)) :: ((J17 33)) :: ((J17 34)) :: ((J17 35)) :: ((J17 36)) :: ((J17 37)) :: ((J17 38)) :: ((J17 39)) :: ((J17 40)) :: ((J17 41)) :: ((J17 42)) :: undef :: undef :: undef :: undef :: undef :: undef :: undef :: undef :: undef :: undef :: undef :: undef :: undef :: undef :: undef :: undef :: undef :: undef :: undef :: undef :: undef :: undef :: undef :: undef :: undef :: undef :: undef :: undef :: undef :: undef :: undef :: undef :: undef :: undef :: undef :: undef :: undef :: undef :: undef :: undef :: undef :: undef :: undef :: undef :: undef :: undef :: undef :: undef :: undef :: undef :: undef :: undef :: undef :: undef :: undef :: undef :: undef :: undef :: undef :: undef :: undef :: undef :: undef :: undef :: undef :: undef :: undef :: undef :: undef :: undef :: undef :: undef :: undef :: undef :: undef :: undef :: undef :: undef :: undef :: undef :: undef :: undef :: undef :: undef :: undef :: undef :: undef :: undef :: undef :: undef :: undef :: undef :: undef :: undef :: undef :: undef :: undef :: undef :: undef :: undef :: undef :: undef :: undef :: undef :: undef :: undef :: undef :: undef :: undef :: undef :: undef :: undef :: undef :: undef :: undef :: []) ∧ kq = (N - (w).toNat) ∧ (0 ≤ w) ∧ (w ≤ (N : Int)) ∧ (ds0 = List.replicate (w).toNat (-1) ++ List.replicate (N - (w).toNat) 0) ∧ (bs0 = List.replicate (w).toNat (-1) ++ List.replicate (N - (w).toNat) 0) ∧ ((ds0).length = N) ∧ ((bs0).length = N) ∧ St W (owns [blk gc [.int .i64 0, .int .i64 0, .int .i64 0, .int .i64 0, .int .i64 0, .int .i64 0, .int .i64 k0] tc]) w' [blk gt_ [.int .i64 v, .slice (some ⟨gd_, 0, none⟩) N N, .slice (some ⟨gb_, 0, none⟩) N N] 72, row (some ⟨gd_, 0, none⟩) N N (ci .i64 ds0) 3 1, row (some ⟨gb_, 0, none⟩) N N (ci .i64 bs0) 3 1, blk gc [.int .i64 0, .int .i64 0, .int .i64 0, .int .i64 0, .int .i64 0, .int .i64 0, .int .i64 k0] tc]) (N - ((0 : Int)).toNat) ⟨(fun k_ : Nat => List.getD ((.pointer (some ⟨g, 0, none⟩)) :: (.int .i64 v) :: (.pointer (some ⟨gc, 0, none⟩)) :: undef :: undef :: undef :: (.pointer none) :: (.int .i64 (N : Int)) :: (.pointer (some ⟨gt_, 0, none⟩)) :: undef :: undef :: undef :: undef :: undef :: undef :: undef :: undef :: (.pointer (some ⟨g, 0, none⟩)) :: (.int .i64 (N : Int)) :: ((u2 19)) :: ((u2 20)) :: ((u2 21)) :: ((u2 22)) :: ((u2 23)) :: ((u2 24)) :: ((u2 25)) :: (.int .i64 (N : Int)) :: (.int .i64 0) :: undef :: undef :: undef :: undef :: undef :: undef :: undef :: undef :: undef :: undef :: undef :: undef :: undef :: undef :: undef :: undef :: undef :: undef :: undef :: undef :: undef :: undef :: undef :: undef :: undef :: undef :: undef :: undef :: undef :: undef :: undef :: undef :: undef :: undef :: undef :: undef :: undef :: undef :: undef :: undef :: undef :: undef :: undef :: undef :: undef :: undef :: undef :: undef :: undef :: undef :: undef :: undef :: undef :: undef :: undef :: undef :: undef :: undef :: undef :: undef :: undef :: undef :: undef :: undef :: undef :: undef :: undef :: undef :: undef :: undef :: undef :: undef :: undef :: undef :: undef :: undef :: undef :: undef :: undef :: undef :: undef :: undef :: undef :: undef :: undef :: undef :: undef :: undef :: undef :: undef :: undef :: undef :: undef :: undef :: undef :: undef :: undef :: undef :: undef :: undef :: undef :: undef :: undef :: undef :: undef :: undef :: undef :: undef :: undef :: undef :: undef :: undef :: undef :: undef :: undef :: undef :: undef :: undef :: undef :: undef :: undef :: undef :: undef :: undef :: undef :: undef :: undef :: undef :: undef :: undef :: []) k_ undef), (0 : Int), List.replicate N 0, List.replicate N 0, congrArg Fr (by kernel_rfl), rfl, by omega, by omega, by simp, by simp, List.length_replicate, List.length_replicate, HS⟩ ?_
    clear HS
    intro kq18 a' W19 hrel
    obtain ⟨J17, w, ds0, bs0, rfl, hk, w0, w1, hd0, hb0, hdl, hbl, HS⟩ := hrel
    refine wp_seq ?_
    refine wp_region_lit ?_
    by_cases hc20 : w < (N : Int)
    · skip
      refine ql (.bool true) (by kernel_rfl) (R_bool (p := w < (N : Int)) (by kernel_rfl) (hc20)) ?_
      refine wpList_nil ?_
      refine x_then ?_
      refine wp_seq ?_
      refine wp_cond_true (by kernel_rfl) ?_
      refine wp_skip ?_
      refine x_then ?_
      refine wp_seq ?_
      refine wp_block ?_
      refine wp_seq ?_
      refine wp_region_lit ?_
      refine ql (.int .i64 w) (by kernel_rfl) (by kernel_rfl) ?_
      refine ql (.int .i64 w) (by kernel_rfl) (by kernel_rfl) ?_
      refine wpList_nil ?_
      refine x_then ?_
      refine t_start HS (fun k_ => (row (some ⟨gd_, 0, none⟩) N N (ci .i64 ds0) 3 1).own k_ ∨ (row (some ⟨gb_, 0, none⟩) N N (ci .i64 bs0) 3 1).own k_) 14 (by kernel_rfl) rfl ?_
      intro W21 H_ HD_
      clear HD_
      replace HS : St W (owns [blk gc [.int .i64 0, .int .i64 0, .int .i64 0, .int .i64 0, .int .i64 0, .int .i64 0, .int .i64 k0] tc]) W21 [blk gt_ [.int .i64 v, .slice (some ⟨gd_, 0, none⟩) N N, .slice (some ⟨gb_, 0, none⟩) N N] 72, row (some ⟨gd_, 0, none⟩) N N (ci .i64 ds0) 3 1, row (some ⟨gb_, 0, none⟩) N N (ci .i64 bs0) 3 1, blk gc [.int .i64 0, .int .i64 0, .int .i64 0, .int .i64 0, .int .i64 0, .int .i64 0, .int .i64 k0] tc] := H_
      clear H_
      have HV := HS
      have HK := Kpt.refl (fun k_ => (row (some ⟨gd_, 0, none⟩) N N (ci .i64 ds0) 3 1).own k_ ∨ (row (some ⟨gb_, 0, none⟩) N N (ci .i64 bs0) 3 1).own k_) W21
      refine t_q (n := 13) 0 (.pointer (some ⟨gt_, 0, none⟩)) rfl (by kernel_rfl) (by kernel_rfl) (fun _ _ _ h => h) (fun w' hk => (by kernel_rfl)) HK ?_
      refine t_q (n := 12) 1 (.pointer (some ⟨gt_, 0, none⟩)) rfl (by kernel_rfl) (by kernel_rfl) (fun _ _ _ h => h) (fun w' hk => (by kernel_rfl)) HK ?_
      refine t_q (n := 11) 2 (.pointer (some ⟨gt_, 1, none⟩)) rfl (by kernel_rfl) (by kernel_rfl) (fun _ _ _ h => h) (fun w' hk => (by kernel_rfl)) HK ?_
      refine t_q (n := 10) 3 (.slice (some ⟨gd_, 0, none⟩) N N) rfl (by kernel_rfl) (by kernel_rfl) (fun _ _ _ h => h) (fun w' hk => (R_load (p := ⟨gt_, 1, none⟩) (by kernel_rfl) (by kernel_rfl) (by kernel_rfl) (hk.cellN (fun h_ => h_.elim (HV.sepB (a := 0) (b := 1) (by decide) rfl rfl) (HV.sepB (a := 0) (b := 2) (by decide) rfl rfl)) (HV.cell (i := 0) (j := 1) rfl rfl)))) HK ?_
      refine t_q (n := 9) 4 (.int .i64 w) rfl (by kernel_rfl) (by kernel_rfl) (fun _ _ _ h => h) (fun w' hk => (by kernel_rfl)) HK ?_
      refine t_q (n := 8) 5 (.pointer (some ⟨gt_, 0, none⟩)) rfl (by kernel_rfl) (by kernel_rfl) (fun _ _ _ h => h) (fun w' hk => (by kernel_rfl)) HK ?_
      refine t_q (n := 7) 6 (.pointer (some ⟨gt_, 0, none⟩)) rfl (by kernel_rfl) (by kernel_rfl) (fun _ _ _ h => h) (fun w' hk => (by kernel_rfl)) HK ?_
      refine t_q (n := 6) 7 (.pointer (some ⟨gt_, 2, none⟩)) rfl (by kernel_rfl) (by kernel_rfl) (fun _ _ _ h => h) (fun w' hk => (by kernel_rfl)) HK ?_
      refine t_q (n := 5) 8 (.slice (some ⟨gb_, 0, none⟩) N N) rfl (by kernel_rfl) (by kernel_rfl) (fun _ _ _ h => h) (fun w' hk => (R_load (p := ⟨gt_, 2, none⟩) (by kernel_rfl) (by kernel_rfl) (by kernel_rfl) (hk.cellN (fun h_ => h_.elim (HV.sepB (a := 0) (b := 1) (by decide) rfl rfl) (HV.sepB (a := 0) (b := 2) (by decide) rfl rfl)) (HV.cell (i := 0) (j := 2) rfl rfl)))) HK ?_
      refine t_q (n := 4) 9 (.int .i64 w) rfl (by kernel_rfl) (by kernel_rfl) (fun _ _ _ h => h) (fun w' hk => (by kernel_rfl)) HK ?_
      refine t_q (n := 3) 10 (.pointer (some ⟨gd_, w.toNat, none⟩)) rfl (by kernel_rfl) (by kernel_rfl) (fun _ _ _ h => h) (fun w' hk => (R_index1 (k := .i64) (g := gd_) (n := N) (c := N) (i := w) (by kernel_rfl) (by kernel_rfl) Try.underlying28 (by kernel_rfl) (by omega) (by omega))) HK ?_
      obtain ⟨W22, hrun_, H_, hk_⟩ := ex_kr (P := Try.prog) (ty := 0) (ps := "bfs.go:22") (af := #[{ on := 10, ground := Go.Ground.data }, { on := 0, ground := Go.Ground.phase }, { on := 1, ground := Go.Ground.phase }, { on := 2, ground := Go.Ground.phase }, { on := 3, ground := Go.Ground.phase }, { on := 4, ground := Go.Ground.phase }, { on := 5, ground := (Go.Ground.textOnly Go.Departure.lateStores) }, { on := 6, ground := (Go.Ground.textOnly Go.Departure.lateStoresUnsure) }, { on := 7, ground := (Go.Ground.textOnly Go.Departure.lateStoresUnsure) }, { on := 8, ground := Go.Ground.phase }, { on := 9, ground := (Go.Ground.textOnly Go.Departure.lateStores) }]) (gd := none) (t := 3) (x := (Go.Operand.tmp 40)) (y := (Go.Operand.const (Go.Value.int Go.IntKind.i64 (-1)))) (v := .int .i64 (-1)) HS 1 rfl (w.toNat) [.int .i64 (-1)] (by kernel_rfl) (by kernel_rfl) (by kernel_rfl) (by kernel_rfl) (one_ (by kernel_rfl)) (by rw [ci_len]; first | omega | (simp only [List.length_singleton]; omega))
      replace HK := HK.trans hk_ (fun _ h_ => .inl (.inl (row_own h_)))
      refine t_s (n := 2) 11 rfl (by kernel_rfl) (by kernel_rfl) hrun_ HK ?_
      clear hk_ hrun_
      obtain ⟨xs23, xs23_⟩ : ∃ z_ : List Int, z_ = (ds0).set w.toNat (-1) := ⟨_, rfl⟩
      replace HS : St W (owns [blk gc [.int .i64 0, .int .i64 0, .int .i64 0, .int .i64 0, .int .i64 0, .int .i64 0, .int .i64 k0] tc]) W22 [blk gt_ [.int .i64 v, .slice (some ⟨gd_, 0, none⟩) N N, .slice (some ⟨gb_, 0, none⟩) N N] 72, row (some ⟨gd_, 0, none⟩) N N (ci .i64 xs23) 3 1, row (some ⟨gb_, 0, none⟩) N N (ci .i64 bs0) 3 1, blk gc [.int .i64 0, .int .i64 0, .int .i64 0, .int .i64 0, .int .i64 0, .int .i64 0, .int .i64 k0] tc] := H_.cast_ (by rw [xs23_, ← ci_set]; rfl)
      clear H_
      have xs23l : xs23.length = N := by rw [xs23_, List.length_set]; first | done | omega
      refine t_q (n := 1) 12 (.pointer (some ⟨gb_, w.toNat, none⟩)) rfl (by kernel_rfl) (by kernel_rfl) (fun _ _ _ h => h) (fun w' hk => (R_index1 (k := .i64) (g := gb_) (n := N) (c := N) (i := w) (by kernel_rfl) (by kernel_rfl) Try.underlying28 (by kernel_rfl) (by omega) (by omega))) HK ?_
      obtain ⟨W24, hrun_, H_, hk_⟩ := ex_kr (P := Try.prog) (ty := 0) (ps := "bfs.go:22") (af := #[{ on := 12, ground := Go.Ground.data }, { on := 11, ground := Go.Ground.chain }, { on := 0, ground := Go.Ground.phase }, { on := 1, ground := Go.Ground.phase }, { on := 2, ground := Go.Ground.phase }, { on := 3, ground := Go.Ground.phase }, { on := 4, ground := Go.Ground.phase }, { on := 5, ground := Go.Ground.phase }, { on := 6, ground := Go.Ground.phase }, { on := 7, ground := Go.Ground.phase }, { on := 8, ground := Go.Ground.phase }, { on := 9, ground := Go.Ground.phase }, { on := 10, ground := Go.Ground.phase }, { on := 11, ground := Go.Ground.phase }]) (gd := none) (t := 3) (x := (Go.Operand.tmp 41)) (y := (Go.Operand.const (Go.Value.int Go.IntKind.i64 (-1)))) (v := .int .i64 (-1)) HS 2 rfl (w.toNat) [.int .i64 (-1)] (by kernel_rfl) (by kernel_rfl) (by kernel_rfl) (by kernel_rfl) (one_ (by kernel_rfl)) (by rw [ci_len]; first | omega | (simp only [List.length_singleton]; omega))
      replace HK := HK.trans hk_ (fun _ h_ => .inl (.inr (row_own h_)))
      refine t_s (n := 0) 13 rfl (by kernel_rfl) (by kernel_rfl) hrun_ HK ?_
      clear hk_ hrun_
      obtain ⟨xs25, xs25_⟩ : ∃ z_ : List Int, z_ = (bs0).set w.toNat (-1) := ⟨_, rfl⟩
      replace HS : St W (owns [blk gc [.int .i64 0, .int .i64 0, .int .i64 0, .int .i64 0, .int .i64 0, .int .i64 0, .int .i64 k0] tc]) W24 [blk gt_ [.int .i64 v, .slice (some ⟨gd_, 0, none⟩) N N, .slice (some ⟨gb_, 0, none⟩) N N] 72, row (some ⟨gd_, 0, none⟩) N N (ci .i64 xs23) 3 1, row (some ⟨gb_, 0, none⟩) N N (ci .i64 xs25) 3 1, blk gc [.int .i64 0, .int .i64 0, .int .i64 0, .int .i64 0, .int .i64 0, .int .i64 0, .int .i64 k0] tc] := H_.cast_ (by rw [xs25_, ← ci_set]; rfl)
      clear H_
      have xs25l : xs25.length = N := by rw [xs25_, List.length_set]; first | done | omega
      refine t_done (by kernel_rfl) ?_
      clear HV HK
      refine x_inb ?_
      refine x_then ?_
      refine wp_region_lit ?_
      refine ql (.int .i64 (w + 1)) (by kernel_rfl) (R_int (by kernel_rfl) (w64 (by omega))) ?_
      refine ql (.int .i64 (w + 1)) (by kernel_rfl) (by kernel_rfl) ?_
      refine wpList_nil ?_
      refine x_then ?_
      exact ⟨N - (w + 1).toNat, by omega, (fun k_ : Nat => List.getD ((.pointer (some ⟨g, 0, none⟩)) :: (.int .i64 v) :: (.pointer (some ⟨gc, 0, none⟩)) :: undef :: undef :: undef :: (.pointer none) :: (.int .i64 (N : Int)) :: (.pointer (some ⟨gt_, 0, none⟩)) :: (.int .i64 w) :: undef :: undef :: undef :: undef :: undef :: undef :: undef :: (.pointer (some ⟨g, 0, none⟩)) :: (.int .i64 (N : Int)) :: ((u2 19)) :: ((u2 20)) :: ((u2 21)) :: ((u2 22)) :: ((u2 23)) :: ((u2 24)) :: ((u2 25)) :: (.int .i64 (N : Int)) :: (.int .i64 (w + 1)) :: (.bool true) :: (.int .i64 w) :: (.pointer (some ⟨gt_, 0, none⟩)) :: (.pointer (some ⟨gt_, 0, none⟩)) :: (.pointer (some ⟨gt_, 1, none⟩)) :: (.slice (some ⟨gd_, 0, none⟩) N N) :: (.int .i64 w) :: (.pointer (some ⟨gt_, 0, none⟩)) :: (.pointer (some ⟨gt_, 0, none⟩)) :: (.pointer (some ⟨gt_, 2, none⟩)) :: (.slice (some ⟨gb_, 0, none⟩) N N) :: (.int .i64 w) :: (.pointer (some ⟨gd_, w.toNat, none⟩)) :: (.pointer (some ⟨gb_, w.toNat, none⟩)) :: (.int .i64 (w + 1)) :: undef :: undef :: undef :: undef :: undef :: undef :: undef :: undef :: undef :: undef :: undef :: undef :: undef :: undef :: undef :: undef :: undef :: undef :: undef :: undef :: undef :: undef :: undef :: undef :: undef :: undef :: undef :: undef :: undef :: undef :: undef :: undef :: undef :: undef :: undef :: undef :: undef :: undef :: undef :: undef :: undef :: undef :: undef :: undef :: undef :: undef :: undef :: undef :: undef :: undef :: undef :: undef :: undef :: undef :: undef :: undef :: undef :: undef :: undef :: undef :: undef :: undef :: undef :: undef :: undef :: undef :: undef :: undef :: undef :: undef :: undef :: undef :: undef :: undef :: undef :: undef :: undef :: undef :: undef :: undef :: undef :: undef :: undef :: undef :: undef :: undef :: undef :: undef :: undef :: undef :: undef :: undef :: undef :: undef :: undef :: undef :: undef :: undef :: undef :: undef :: undef :: undef :: undef :: undef :: undef :: undef :: undef :: undef :: undef :: undef :: undef :: undef :: undef :: undef :: undef :: []) k_ undef), w + 1, xs23, xs25, congrArg Fr (by kernel_rfl), rfl, by omega, by omega, fill_step w0 (by omega) hd0 xs23_, fill_step w0 (by omega) hb0 xs25_, by omega, by omega, HS⟩
    · skip
      refine ql (.bool false) (by kernel_rfl) (R_nbool (p := w < (N : Int)) (by kernel_rfl) (hc20)) ?_
      refine wpList_nil ?_
      refine x_then ?_
      refine wp_seq ?_
      refine wp_cond_false (by kernel_rfl) ?_
      refine wp_exit ?_
      refine x_thenE ?_
      refine x_thenE ?_
      refine x_hit ?_
      refine x_then ?_
      refine wp_seq ?_
      refine wp_seq ?_
      have he_ds0 : ds0 = List.replicate N (-1) := by rw [hd0, show w.toNat = N by omega]; simp
      have he_bs0 : bs0 = List.replicate N (-1) := by rw [hb0, show w.toNat = N by omega]; simp
      subst he_ds0
      subst he_bs0
      refine wp_region_lit ?_
      refine ql (.int .i64 v) (by kernel_rfl) (by kernel_rfl) ?_
      by_cases hc26 : v < (0 : Int)
      · skip
        refine ql (.bool true) (by kernel_rfl) (R_bool (p := v < (0 : Int)) (by kernel_rfl) (hc26)) ?_
        refine ql (.bool true) (by kernel_rfl) (by kernel_rfl) ?_
        refine qln (by kernel_rfl) ?_
        refine qln (by kernel_rfl) ?_
        refine qln (by kernel_rfl) ?_
        refine ql (.bool true) (by kernel_rfl) (by kernel_rfl) ?_
        refine wpList_nil ?_
        refine x_then ?_
        refine wp_cond_true (by kernel_rfl) ?_
        refine wp_seq ?_
        refine wp_region_lit ?_
        refine ql (.pointer (some ⟨gt_, 0, none⟩)) (by kernel_rfl) (by kernel_rfl) ?_
        refine ql (.pointer (some ⟨gt_, 0, none⟩)) (by kernel_rfl) (by kernel_rfl) ?_
        refine wpList_nil ?_
        refine x_then ?_
        refine wp_ret ?_
        refine x_thenR ?_
        refine ret_ (.pointer (some ⟨gt_, 0, none⟩)) (by kernel_rfl) ?_
        replace HS : St W (owns [blk gc [.int .i64 0, .int .i64 0, .int .i64 0, .int .i64 0, .int .i64 0, .int .i64 0, .int .i64 k0] tc]) W19 [blk gt_ [.int .i64 v, .slice (some ⟨gd_, 0, none⟩) N N, .slice (some ⟨gb_, 0, none⟩) N N] 72, row (some ⟨gd_, 0, none⟩) N N (ci .i64 (List.replicate N (-1))) 3 1, row (some ⟨gb_, 0, none⟩) N N (ci .i64 (List.replicate N (-1))) 3 1, blk gc [.int .i64 0, .int .i64 0, .int .i64 0, .int .i64 0, .int .i64 0, .int .i64 0, .int .i64 (k0 + ((0 : Nat) : Int))] tc] := HS.cast_ (by rw [show (k0 + ((0 : Nat) : Int)) = k0 by omega])
        exact ⟨_, _, _, _, _, _, _, _, rfl, HS, ds_none hF hv, bk_none hF, by omega⟩
      · skip
        refine ql (.bool false) (by kernel_rfl) (R_nbool (p := v < (0 : Int)) (by kernel_rfl) (hc26)) ?_
        refine ql (.bool false) (by kernel_rfl) (by kernel_rfl) ?_
        refine ql (.int .i64 v) (by kernel_rfl) (by kernel_rfl) ?_
        refine ql (.int .i64 (N : Int)) (by kernel_rfl) (by kernel_rfl) ?_
        refine ql (.bool true) (by kernel_rfl) (R_bool (p := v ≥ (N : Int)) (by kernel_rfl) (by omega)) ?_
        refine ql (.bool true) (by kernel_rfl) (by kernel_rfl) ?_
        refine wpList_nil ?_
        refine x_then ?_
        refine wp_cond_true (by kernel_rfl) ?_
        refine wp_seq ?_
        refine wp_region_lit ?_
        refine ql (.pointer (some ⟨gt_, 0, none⟩)) (by kernel_rfl) (by kernel_rfl) ?_
        refine ql (.pointer (some ⟨gt_, 0, none⟩)) (by kernel_rfl) (by kernel_rfl) ?_
        refine wpList_nil ?_
        refine x_then ?_
        refine wp_ret ?_
        refine x_thenR ?_
        refine ret_ (.pointer (some ⟨gt_, 0, none⟩)) (by kernel_rfl) ?_
        replace HS : St W (owns [blk gc [.int .i64 0, .int .i64 0, .int .i64 0, .int .i64 0, .int .i64 0, .int .i64 0, .int .i64 k0] tc]) W19 [blk gt_ [.int .i64 v, .slice (some ⟨gd_, 0, none⟩) N N, .slice (some ⟨gb_, 0, none⟩) N N] 72, row (some ⟨gd_, 0, none⟩) N N (ci .i64 (List.replicate N (-1))) 3 1, row (some ⟨gb_, 0, none⟩) N N (ci .i64 (List.replicate N (-1))) 3 1, blk gc [.int .i64 0, .int .i64 0, .int .i64 0, .int .i64 0, .int .i64 0, .int .i64 0, .int .i64 (k0 + ((0 : Nat) : Int))] tc] := HS.cast_ (by rw [show (k0 + ((0 : Nat) : Int)) = k0 by omega])
        exact ⟨_, _, _, _, _, _, _, _, rfl, HS, ds_none hF hv, bk_none hF, by omega⟩


theorem rd_cell {W : World} {g j : Nat} {cs : List Value} {v : Value} (h : Rd W (some ⟨g, 0, none⟩) cs) (hv : cs[j]? = some v) : W.cell? ⟨g, j, none⟩ = some v := by
  have := h.at_ hv
  rwa [show (⟨g, 0, none⟩ : Addr).add j = ⟨g, j, none⟩ by unfold Addr.add; split <;> simp_all] at this

set_option maxRecDepth 100000 in
set_option maxHeartbeats 1000000 in
theorem cof_6 (gc : Nat) (x : Int) (W : World) (hc : Rd W (some ⟨gc, 0, none⟩) [.int .i64 0, .int .i64 0, .int .i64 0, .int .i64 0, .int .i64 0, .int .i64 0, .int .i64 x]) : Calls Try.prog 37 #[.pointer (some ⟨gc, 0, none⟩), .int .i64 6] W fun e W' => e = .returned (.int .i64 (x)) ∧ St W (owns []) W' [] := by
  have HS : St W (owns []) W [] := St.start W _
  refine calls_enter [.pointer (some ⟨gc, 0, none⟩), .int .i64 6, undef, undef, undef, undef, undef, undef, undef, undef, undef, undef, undef, undef, undef, undef, undef, undef, undef, undef, undef] Try.func37 rfl (by kernel_rfl) ?_
  refine wp_seq ?_
  refine wp_region_lit ?_
  refine ql (.int .i64 0) (by kernel_rfl) (by kernel_rfl) ?_
  refine wpList_nil ?_
  refine x_then ?_
  refine wp_seq ?_
  refine wp_seq ?_
  refine wp_region_lit ?_
  refine ql (.pointer (some ⟨gc, 0, none⟩)) (by kernel_rfl) (by kernel_rfl) ?_
  refine ql (.bool false) (by kernel_rfl) (by kernel_rfl) ?_
  refine ql (.bool false) (by kernel_rfl) (by kernel_rfl) ?_
  refine ql (.int .i64 6) (by kernel_rfl) (by kernel_rfl) ?_
  refine ql (.bool false) (by kernel_rfl) (R_beq (b := decide ((6 : Int) < 0)) (by kernel_rfl) (by decide)) ?_
  refine ql (.bool false) (by kernel_rfl) (by kernel_rfl) ?_
  refine ql (.bool false) (by kernel_rfl) (by kernel_rfl) ?_
  refine ql (.int .i64 6) (by kernel_rfl) (by kernel_rfl) ?_
  refine ql (.bool false) (by kernel_rfl) (R_beq (b := decide ((6 : Int) ≥ 7)) (by kernel_rfl) (by decide)) ?_
  refine ql (.bool false) (by kernel_rfl) (by kernel_rfl) ?_
  refine wpList_nil ?_
  refine x_then ?_
  refine wp_cond_false (by kernel_rfl) ?_
  refine wp_skip ?_
  refine x_then ?_
  refine wp_seq ?_
  refine wp_region_lit ?_
  refine ql (.pointer (some ⟨gc, 0, none⟩)) (by kernel_rfl) (by kernel_rfl) ?_
  refine ql (.int .i64 6) (by kernel_rfl) (by kernel_rfl) ?_
  refine ql (.pointer (some ⟨gc, 0, none⟩)) (by kernel_rfl) (by kernel_rfl) ?_
  refine ql (.pointer (some ⟨gc, 0, none⟩)) (by kernel_rfl) (by kernel_rfl) ?_
  refine ql (.pointer (some ⟨gc, 6, none⟩)) (by kernel_rfl) (by kernel_rfl) ?_
  refine ql (.int .i64 x) (by kernel_rfl) (R_load (p := ⟨gc, 6, none⟩) (by kernel_rfl) (by kernel_rfl) (by kernel_rfl) (HS.old0 (rd_cell hc (j := 6) rfl))) ?_
  refine ql (.int .i64 x) (by kernel_rfl) (by kernel_rfl) ?_
  refine wpList_nil ?_
  refine x_then ?_
  refine wp_ret ?_
  refine ret_ (.int .i64 x) (by kernel_rfl) ?_
  exact ⟨rfl, HS⟩

set_option maxRecDepth 100000 in
set_option maxHeartbeats 1000000 in
theorem rdist_yes (N : Nat) (A : Option Addr) (c : Nat) (arcs : List (Int × Int)) (W : World) (hr : Rd W A (cf arcC arcs)) (hl : arcs.length ≤ 1048576) (v : Int) (hF : Fine N arcs) (hN : N ≤ 1048576) (h0 : 0 ≤ v) (h1 : v < N) : Calls Try.prog 33 #[.int .i64 (N : Int), .slice A arcs.length c, .int .i64 v] W fun e W' => ∃ A' c' ds, e = .returned (.slice A' ds.length c') ∧ St W (owns []) W' [row A' ds.length c' (ci .i64 ds) 3 1] ∧ DS N arcs v ds := by
  have HS : St W (owns []) W [] := St.start W _
  refine calls_enter ((.int .i64 (N : Int)) :: (.slice A arcs.length c) :: (.int .i64 v) :: undef :: undef :: undef :: undef :: undef :: undef :: undef :: undef :: undef :: undef :: undef :: undef :: undef :: undef :: undef :: undef :: undef :: undef :: undef :: undef :: undef :: undef :: undef :: undef :: undef :: undef :: undef :: undef :: undef :: undef :: undef :: undef :: undef :: undef :: undef :: undef :: undef :: undef :: undef :: undef :: undef :: undef :: undef :: undef :: undef :: undef :: undef :: undef :: undef :: undef :: undef :: undef :: undef :: undef :: undef :: undef :: undef :: undef :: undef :: undef :: undef :: undef :: undef :: undef :: undef :: undef :: undef :: undef :: undef :: undef :: []) Try.func33 rfl (by kernel_rfl) ?_
  refine wp_seq ?_
  refine wp_region_lit ?_
  refine ql (.slice none 0 0) (by kernel_rfl) (by kernel_rfl) ?_
  refine wpList_nil ?_
  refine x_then ?_
  refine wp_seq ?_
  refine wp_region_lit ?_
  refine kl HS 0 [] 3 1 (by kernel_rfl) (by kernel_rfl) rfl (by decide) ?_
  intro g1 W2 H_
  replace HS : St W (owns []) W2 [row (some ⟨g1, 0, none⟩) 0 0 (ci .i64 ([])) 3 1] := H_.cast_ (by kernel_rfl)
  clear H_
  refine ql (.slice (some ⟨g1, 0, none⟩) 0 0) (by kernel_rfl) (by kernel_rfl) ?_
  refine wpList_nil ?_
  refine x_then ?_
  refine wp_seq ?_
  refine wp_seq ?_
  refine wp_region_lit ?_
  refine ql (.int .i64 0) (by kernel_rfl) (by kernel_rfl) ?_
  refine wpList_nil ?_
  refine x_then ?_
  refine wp_block ?_
  refine wp_loop_ghost (fun kq a' w' => ∃ (J3 : Nat → Value) (i : Int) (Ao : Option Addr) (co : Nat) (os : List Int) , a' = Fr ((.int .i64 (N : Int)) :: (.slice A arcs.length c) :: (.int .i64 v) :: undef :: undef :: undef :: (.slice none 0 0) :: (.slice Ao os.length co) :: (.int .i64 i) :: undef :: undef :: (.slice (some ⟨g1, 0, none⟩) 0 0) :: ((J3 12)) :: ((J3 13)) :: ((J3 14)) :: ((J3 15)) :: ((J3 16)) :: ((J3 17)) :: ((J3 18)) :: ((J3 19)) :: undef :: undef :: undef :: undef :: undef :: undef :: undef :: undef :: undef :: undef :: undef :: undef :: undef :: undef :: undef :: undef :: undef :: undef :: undef :: undef :: undef :: undef :: undef :: undef :: undef :: undef :: undef :: undef :: undef :: undef :: undef :: undef :: undef :: undef :: undef :: undef :: undef :: undef :: undef :: undef :: undef :: undef :: undef :: undef :: undef :: undef :: undef :: undef :: undef :: undef :: undef :: undef :: undef :: []) ∧ kq = (N - (i).toNat) ∧ (0 ≤ i) ∧ (i ≤ N) ∧ (os = List.replicate (i).toNat (-1)) ∧ ((os.length : Int) = i) ∧ St W (owns []) w' [row Ao os.length co (ci .i64 os) 3 1]) (N - ((0 : Int)).toNat) ⟨(fun k_ : Nat => List.getD ((.int .i64 (N : Int)) :: (.slice A arcs.length c) :: (.int .i64 v) :: undef :: undef :: undef :: (.slice none 0 0) :: (.slice (some ⟨g1, 0, none⟩) 0 0) :: (.int .i64 0) :: undef :: undef :: (.slice (some ⟨g1, 0, none⟩) 0 0) :: undef :: undef :: undef :: undef :: undef :: undef :: undef :: undef :: undef :: undef :: undef :: undef :: undef :: undef :: undef :: undef :: undef :: undef :: undef :: undef :: undef :: undef :: undef :: undef :: undef :: undef :: undef :: undef :: undef :: undef :: undef :: undef :: undef :: undef :: undef :: undef :: undef :: undef :: undef :: undef :: undef :: undef :: undef :: undef :: undef :: undef :: undef :: undef :: undef :: undef :: undef :: undef :: undef :: undef :: undef :: undef :: undef :: undef :: undef :: undef :: undef :: []) k_ undef), (0 : Int), some ⟨g1, 0, none⟩, 0, ([] : List Int), congrArg Fr (by kernel_rfl), rfl, by omega, by omega, by rfl, by simp, HS⟩ ?_
  clear HS
  intro kq4 a' W5 hrel
  obtain ⟨J3, i, Ao, co, os, rfl, hk, i0, i1, ho, hol, HS⟩ := hrel
  refine wp_seq ?_
  refine wp_seq ?_
  refine wp_region_lit ?_
  refine ql (.int .i64 i) (by kernel_rfl) (by kernel_rfl) ?_
  refine ql (.int .i64 (N : Int)) (by kernel_rfl) (by kernel_rfl) ?_
  by_cases hc6 : i < (N : Int)
  · skip
    refine ql (.bool true) (by kernel_rfl) (R_bool (p := i < (N : Int)) (by kernel_rfl) (hc6)) ?_
    refine wpList_nil ?_
    refine x_then ?_
    refine wp_cond_true (by kernel_rfl) ?_
    refine wp_skip ?_
    refine x_then ?_
    refine wp_seq ?_
    refine wp_block ?_
    refine wp_region_lit ?_
    refine ql (.slice Ao os.length co) (by kernel_rfl) (by kernel_rfl) ?_
    refine kl HS 1 [.int .i64 (-1)] 3 1 (by kernel_rfl) (by kernel_rfl) rfl (by decide) ?_
    intro g7 W8 H_
    replace HS : St W (owns []) W8 [row (some ⟨g7, 0, none⟩) 1 1 (ci .i64 ([-1])) 3 1, row Ao os.length co (ci .i64 os) 3 1] := H_.cast_ (by kernel_rfl)
    clear H_
    obtain ⟨xs12, xs12_⟩ : ∃ z_ : List Int, z_ = os ++ ([-1]) := ⟨_, rfl⟩
    have xs12l : xs12.length = os.length + 1 := by rw [xs12_, List.length_append] <;> (try simp only [List.length_cons, List.length_nil]) <;> omega
    refine ka1 HS 1 rfl (Src.of_row HS (i := 0) rfl ci_one) [.int .i64 0] 8 xs12.length (ci .i64 xs12) (by omega) (by rw [xs12_, ci_app]) (by kernel_rfl) (by kernel_rfl) (by kernel_rfl) Try.underlying28 (by kernel_rfl) (by kernel_rfl) (by kernel_rfl) (by kernel_rfl) (by decide) (by omega) (by omega) ?_
    intro A9 c10 W11 H_
    replace HS : St W (owns []) W11 [row (some ⟨g7, 0, none⟩) 1 1 (ci .i64 ([-1])) 3 1, row A9 xs12.length c10 (ci .i64 xs12) 3 1] := H_
    clear H_
    refine ql (.slice A9 xs12.length c10) (by kernel_rfl) (by kernel_rfl) ?_
    refine wpList_nil ?_
    refine x_inb ?_
    refine x_then ?_
    refine wp_region_lit ?_
    refine ql (.int .i64 i) (by kernel_rfl) (by kernel_rfl) ?_
    refine ql (.int .i64 (i + 1)) (by kernel_rfl) (R_int (by kernel_rfl) (w64 (by omega))) ?_
    refine ql (.int .i64 (i + 1)) (by kernel_rfl) (by kernel_rfl) ?_
    refine wpList_nil ?_
    replace HS := HS.drop1
    refine x_then ?_
    exact ⟨N - (i + 1).toNat, by omega, (fun k_ : Nat => List.getD ((.int .i64 (N : Int)) :: (.slice A arcs.length c) :: (.int .i64 v) :: undef :: undef :: undef :: (.slice none 0 0) :: (.slice A9 xs12.length c10) :: (.int .i64 (i + 1)) :: undef :: undef :: (.slice (some ⟨g1, 0, none⟩) 0 0) :: (.int .i64 i) :: (.int .i64 (N : Int)) :: (.bool true) :: (.int .i64 i) :: (.int .i64 (i + 1)) :: (.slice Ao os.length co) :: (.slice (some ⟨g7, 0, none⟩) 1 1) :: (.slice A9 xs12.length c10) :: undef :: undef :: undef :: undef :: undef :: undef :: undef :: undef :: undef :: undef :: undef :: undef :: undef :: undef :: undef :: undef :: undef :: undef :: undef :: undef :: undef :: undef :: undef :: undef :: undef :: undef :: undef :: undef :: undef :: undef :: undef :: undef :: undef :: undef :: undef :: undef :: undef :: undef :: undef :: undef :: undef :: undef :: undef :: undef :: undef :: undef :: undef :: undef :: undef :: undef :: undef :: undef :: undef :: []) k_ undef), i + 1, A9, c10, xs12, congrArg Fr (by kernel_rfl), rfl, by omega, by omega, by rw [xs12_, ho, show (i + 1).toNat = i.toNat + 1 by omega, List.replicate_succ'], by omega, HS⟩
  · skip
    refine ql (.bool false) (by kernel_rfl) (R_nbool (p := i < (N : Int)) (by kernel_rfl) (hc6)) ?_
    refine wpList_nil ?_
    refine x_then ?_
    refine wp_cond_false (by kernel_rfl) ?_
    refine wp_exit ?_
    refine x_thenE ?_
    refine x_thenE ?_
    refine x_hit ?_
    refine x_then ?_
    refine wp_seq ?_
    refine wp_seq ?_
    have he : os = List.replicate N (-1) := by rw [ho, show i.toNat = N by omega]
    have hoN : os.length = N := by omega
    refine wp_region_lit ?_
    refine ql (.int .i64 v) (by kernel_rfl) (by kernel_rfl) ?_
    refine ql (.bool false) (by kernel_rfl) (R_nbool (p := v < (0 : Int)) (by kernel_rfl) (by omega)) ?_
    refine ql (.bool false) (by kernel_rfl) (by kernel_rfl) ?_
    refine ql (.int .i64 v) (by kernel_rfl) (by kernel_rfl) ?_
    refine ql (.int .i64 (N : Int)) (by kernel_rfl) (by kernel_rfl) ?_
    refine ql (.bool false) (by kernel_rfl) (R_nbool (p := v ≥ (N : Int)) (by kernel_rfl) (by omega)) ?_
    refine ql (.bool false) (by kernel_rfl) (by kernel_rfl) ?_
    refine wpList_nil ?_
    refine x_then ?_
    refine wp_cond_false (by kernel_rfl) ?_
    refine wp_skip ?_
    refine x_then ?_
    refine wp_seq ?_
    refine wp_region_lit ?_
    refine ql (.slice Ao os.length co) (by kernel_rfl) (by kernel_rfl) ?_
    refine ql (.int .i64 v) (by kernel_rfl) (by kernel_rfl) ?_
    obtain ⟨g13, rfl⟩ := St.rsome HS (i := 0) rfl (by omega)
    refine ql (.pointer (some ⟨g13, v.toNat, none⟩)) (by kernel_rfl) (R_index1 (k := .i64) (g := g13) (n := os.length) (c := co) (i := v) (by kernel_rfl) (by kernel_rfl) Try.underlying28 (by kernel_rfl) (by omega) (by omega)) ?_
    refine kr (v := .int .i64 0) HS 0 rfl (v.toNat) [.int .i64 0] (by kernel_rfl) (by kernel_rfl) (by kernel_rfl) (by kernel_rfl) (by kernel_rfl) (one_ (by kernel_rfl)) (by rw [ci_len]; first | omega | (simp only [List.length_singleton]; omega)) rfl ?_
    intro W14 H_
    obtain ⟨xs15, xs15_⟩ : ∃ z_ : List Int, z_ = (os).set v.toNat 0 := ⟨_, rfl⟩
    replace HS : St W (owns []) W14 [row (some ⟨g13, 0, none⟩) os.length co (ci .i64 xs15) 3 1] := H_.cast_ (by rw [xs15_, ← ci_set]; rfl)
    clear H_
    have xs15l : xs15.length = os.length := by rw [xs15_, List.length_set]; first | done | omega
    refine wpList_nil ?_
    refine x_then ?_
    refine wp_seq ?_
    refine wp_seq ?_
    refine wp_region_lit ?_
    refine ql (.int .i64 0) (by kernel_rfl) (by kernel_rfl) ?_
    refine wpList_nil ?_
    refine x_then ?_
    refine wp_block ?_
    have hst := rd_start hF h0 h1 (ds := xs15) (by rw [xs15_, he])
    refine wp_loop_ghost (fun kq a' w' => ∃ (J16 : Nat → Value) (d : Int) (ds : List Int) , a' = Fr ((.int .i64 (N : Int)) :: (.slice A arcs.length c) :: (.int .i64 v) :: undef :: undef :: undef :: (.slice none 0 0) :: (.slice (some ⟨g13, 0, none⟩) os.length co) :: (.int .i64 i) :: (.int .i64 d) :: ((J16 10)) :: (.slice (some ⟨g1, 0, none⟩) 0 0) :: (.int .i64 i) :: (.int .i64 (N : Int)) :: (.bool false) :: ((J3 15)) :: ((J3 16)) :: ((J3 17)) :: ((J3 18)) :: ((J3 19)) :: (.int .i64 v) :: (.bool false) :: (.bool false) :: (.int .i64 v) :: (.int .i64 (N : Int)) :: (.bool false) :: (.bool false) :: undef :: (.slice (some ⟨g13, 0, none⟩) os.length co) :: (.int .i64 v) :: (.pointer (some ⟨g13, v.toNat, none⟩)) :: ((J16 31)) :: ((J16 32)) :: ((J16 33)) :: ((J16 34)) :: ((J16 35)) :: ((J16 36)) :: ((J16 37)) :: ((J16 38)) :: ((J16 39)) :: ((J16 40)) :: ((J16 41)) :: ((J16 42)) :: ((J16 43)) :: ((J16 44)) :: ((J16 45)) :: ((J16 46)) :: ((J16 47)) :: ((J16 48)) :: ((J16 49)) :: ((J16 50)) :: ((J16 51)) :: ((J16 52)) :: ((J16 53)) :: ((J16 54)) :: ((J16 55)) :: ((J16 56)) :: ((J16 57)) :: ((J16 58)) :: ((J16 59)) :: ((J16 60)) :: ((J16 61)) :: ((J16 62)) :: ((J16 63)) :: ((J16 64)) :: ((J16 65)) :: ((J16 66)) :: ((J16 67)) :: ((J16 68)) :: ((J16 69)) :: ((J16 70)) :: ((J16 71)) :: undef :: []) ∧ kq = (N - (d).toNat) ∧ (0 ≤ d) ∧ (d ≤ N) ∧ (RD N arcs v d d 0 ds) ∧ ((ds).length = N) ∧ St W (owns []) w' [row (some ⟨g13, 0, none⟩) os.length co (ci .i64 ds) 3 1]) (N - ((0 : Int)).toNat) ⟨(fun k_ : Nat => List.getD ((.int .i64 (N : Int)) :: (.slice A arcs.length c) :: (.int .i64 v) :: undef :: undef :: undef :: (.slice none 0 0) :: (.slice (some ⟨g13, 0, none⟩) os.length co) :: (.int .i64 i) :: (.int .i64 0) :: undef :: (.slice (some ⟨g1, 0, none⟩) 0 0) :: (.int .i64 i) :: (.int .i64 (N : Int)) :: (.bool false) :: ((J3 15)) :: ((J3 16)) :: ((J3 17)) :: ((J3 18)) :: ((J3 19)) :: (.int .i64 v) :: (.bool false) :: (.bool false) :: (.int .i64 v) :: (.int .i64 (N : Int)) :: (.bool false) :: (.bool false) :: undef :: (.slice (some ⟨g13, 0, none⟩) os.length co) :: (.int .i64 v) :: (.pointer (some ⟨g13, v.toNat, none⟩)) :: undef :: undef :: undef :: undef :: undef :: undef :: undef :: undef :: undef :: undef :: undef :: undef :: undef :: undef :: undef :: undef :: undef :: undef :: undef :: undef :: undef :: undef :: undef :: undef :: undef :: undef :: undef :: undef :: undef :: undef :: undef :: undef :: undef :: undef :: undef :: undef :: undef :: undef :: undef :: undef :: undef :: undef :: []) k_ undef), (0 : Int), xs15, congrArg Fr (by kernel_rfl), rfl, by omega, by omega, hst, by omega, HS⟩ ?_
    clear HS
    intro kq17 a' W18 hrel
    obtain ⟨J16, d, ds, rfl, hk, d0, d1, hD, hdl, HS⟩ := hrel
    refine wp_seq ?_
    refine wp_seq ?_
    refine wp_region_lit ?_
    refine ql (.int .i64 d) (by kernel_rfl) (by kernel_rfl) ?_
    refine ql (.int .i64 (N : Int)) (by kernel_rfl) (by kernel_rfl) ?_
    by_cases hc19 : d < (N : Int)
    · skip
      refine ql (.bool true) (by kernel_rfl) (R_bool (p := d < (N : Int)) (by kernel_rfl) (hc19)) ?_
      refine wpList_nil ?_
      refine x_then ?_
      refine wp_cond_true (by kernel_rfl) ?_
      refine wp_skip ?_
      refine x_then ?_
      refine wp_seq ?_
      refine wp_block ?_
      refine wp_seq ?_
      refine wp_region_lit ?_
      refine ql (.int .i64 0) (by kernel_rfl) (by kernel_rfl) ?_
      refine wpList_nil ?_
      refine x_then ?_
      refine wp_block ?_
      refine wp_loop_ghost (fun kq a' w' => ∃ (J20 : Nat → Value) (p : Int) (ds2 : List Int) , a' = Fr ((.int .i64 (N : Int)) :: (.slice A arcs.length c) :: (.int .i64 v) :: undef :: undef :: undef :: (.slice none 0 0) :: (.slice (some ⟨g13, 0, none⟩) os.length co) :: (.int .i64 i) :: (.int .i64 d) :: (.int .i64 p) :: (.slice (some ⟨g1, 0, none⟩) 0 0) :: (.int .i64 i) :: (.int .i64 (N : Int)) :: (.bool false) :: ((J3 15)) :: ((J3 16)) :: ((J3 17)) :: ((J3 18)) :: ((J3 19)) :: (.int .i64 v) :: (.bool false) :: (.bool false) :: (.int .i64 v) :: (.int .i64 (N : Int)) :: (.bool false) :: (.bool false) :: undef :: (.slice (some ⟨g13, 0, none⟩) os.length co) :: (.int .i64 v) :: (.pointer (some ⟨g13, v.toNat, none⟩)) :: (.int .i64 d) :: (.int .i64 (N : Int)) :: (.bool true) :: ((J16 34)) :: ((J16 35)) :: ((J20 36)) :: ((J20 37)) :: ((J20 38)) :: ((J20 39)) :: ((J20 40)) :: ((J20 41)) :: ((J20 42)) :: ((J20 43)) :: ((J20 44)) :: ((J20 45)) :: ((J20 46)) :: ((J20 47)) :: ((J20 48)) :: ((J20 49)) :: ((J20 50)) :: ((J20 51)) :: ((J20 52)) :: ((J20 53)) :: ((J20 54)) :: ((J20 55)) :: ((J20 56)) :: ((J20 57)) :: ((J20 58)) :: ((J20 59)) :: ((J20 60)) :: ((J20 61)) :: ((J20 62)) :: ((J20 63)) :: ((J20 64)) :: ((J20 65)) :: ((J20 66)) :: ((J20 67)) :: ((J20 68)) :: ((J20 69)) :: ((J20 70)) :: ((J20 71)) :: undef :: []) ∧ kq = (arcs.length - (p).toNat) ∧ (0 ≤ p) ∧ (p ≤ arcs.length) ∧ (RD N arcs v (d + 1) d p ds2) ∧ ((ds2).length = N) ∧ St W (owns []) w' [row (some ⟨g13, 0, none⟩) os.length co (ci .i64 ds2) 3 1]) (arcs.length - ((0 : Int)).toNat) ⟨(fun k_ : Nat => List.getD ((.int .i64 (N : Int)) :: (.slice A arcs.length c) :: (.int .i64 v) :: undef :: undef :: undef :: (.slice none 0 0) :: (.slice (some ⟨g13, 0, none⟩) os.length co) :: (.int .i64 i) :: (.int .i64 d) :: (.int .i64 0) :: (.slice (some ⟨g1, 0, none⟩) 0 0) :: (.int .i64 i) :: (.int .i64 (N : Int)) :: (.bool false) :: ((J3 15)) :: ((J3 16)) :: ((J3 17)) :: ((J3 18)) :: ((J3 19)) :: (.int .i64 v) :: (.bool false) :: (.bool false) :: (.int .i64 v) :: (.int .i64 (N : Int)) :: (.bool false) :: (.bool false) :: undef :: (.slice (some ⟨g13, 0, none⟩) os.length co) :: (.int .i64 v) :: (.pointer (some ⟨g13, v.toNat, none⟩)) :: (.int .i64 d) :: (.int .i64 (N : Int)) :: (.bool true) :: ((J16 34)) :: ((J16 35)) :: ((J16 36)) :: ((J16 37)) :: ((J16 38)) :: ((J16 39)) :: ((J16 40)) :: ((J16 41)) :: ((J16 42)) :: ((J16 43)) :: ((J16 44)) :: ((J16 45)) :: ((J16 46)) :: ((J16 47)) :: ((J16 48)) :: ((J16 49)) :: ((J16 50)) :: ((J16 51)) :: ((J16 52)) :: ((J16 53)) :: ((J16 54)) :: ((J16 55)) :: ((J16 56)) :: ((J16 57)) :: ((J16 58)) :: ((J16 59)) :: ((J16 60)) :: ((J16 61)) :: ((J16 62)) :: ((J16 63)) :: ((J16 64)) :: ((J16 65)) :: ((J16 66)) :: ((J16 67)) :: ((J16 68)) :: ((J16 69)) :: ((J16 70)) :: ((J16 71)) :: undef :: []) k_ undef), (0 : Int), ds, congrArg Fr (by kernel_rfl), rfl, by omega, by omega, rd_in hD, hdl, HS⟩ ?_
      clear HS
      intro kq21 a' W22 hrel
      obtain ⟨J20, p, ds2, rfl, hk, p0, p1, hE, hdl2, HS⟩ := hrel
      refine wp_seq ?_
      refine wp_seq ?_
      refine wp_region_lit ?_
      refine ql (.int .i64 p) (by kernel_rfl) (by kernel_rfl) ?_
      refine ql (.slice A arcs.length c) (by kernel_rfl) (by kernel_rfl) ?_
      refine ql (.int .i64 (arcs.length : Int)) (by kernel_rfl) (by kernel_rfl) ?_
      by_cases hc23 : p < (arcs.length : Int)
      · skip
        refine ql (.bool true) (by kernel_rfl) (R_bool (p := p < (arcs.length : Int)) (by kernel_rfl) (hc23)) ?_
        refine wpList_nil ?_
        refine x_then ?_
        refine wp_cond_true (by kernel_rfl) ?_
        refine wp_skip ?_
        refine x_then ?_
        refine wp_seq ?_
        refine wp_block ?_
        refine wp_seq ?_
        have hf := gx_fine hF p0 (by omega)
        refine wp_region_lit ?_
        refine ql (.slice (some ⟨g13, 0, none⟩) os.length co) (by kernel_rfl) (by kernel_rfl) ?_
        refine ql (.slice A arcs.length c) (by kernel_rfl) (by kernel_rfl) ?_
        refine ql (.int .i64 p) (by kernel_rfl) (by kernel_rfl) ?_
        obtain ⟨ad24, rfl⟩ := Rd.isSome_ hr (by rw [cf_len (z := 2) (fun _ => rfl)]; omega)
        refine ql (.pointer (some (ad24.add (p.toNat * 2)))) (by kernel_rfl) (R_indexA (k := .i64) (p := ad24) (n := arcs.length) (c := c) (i := p) (by kernel_rfl) (by kernel_rfl) Try.underlying22 (by kernel_rfl) (by omega) (by omega)) ?_
        refine ql (.pointer (some (ad24.add (p.toNat * 2)))) (by kernel_rfl) (by kernel_rfl) ?_
        refine ql (.int .i64 ((gx arcs p).1)) (by kernel_rfl) (R_load (p := ad24.add (p.toNat * 2)) (by kernel_rfl) (by kernel_rfl) (by kernel_rfl) (HS.old0 (Rd.elem0 (f := arcC) (fun _ => rfl) hr (gx_eq (by omega) (by omega)) rfl))) ?_
        refine ql (.pointer (some ⟨g13, ((gx arcs p).1).toNat, none⟩)) (by kernel_rfl) (R_index1 (k := .i64) (g := g13) (n := os.length) (c := co) (i := (gx arcs p).1) (by kernel_rfl) (by kernel_rfl) Try.underlying28 (by kernel_rfl) (by omega) (by omega)) ?_
        refine ql (.int .i64 (rdI ds2 ((gx arcs p).1))) (by kernel_rfl) (R_load (p := ⟨g13, ((gx arcs p).1).toNat, none⟩) (by kernel_rfl) (by kernel_rfl) (by kernel_rfl) (HS.rcell (i := 0) rfl (ci_rd (by omega) (by omega)))) ?_
        refine ql (.int .i64 d) (by kernel_rfl) (by kernel_rfl) ?_
        by_cases hc25 : (rdI ds2 ((gx arcs p).1)) = d
        · skip
          refine ql (.bool true) (by kernel_rfl) (R_beq (b := (rdI ds2 ((gx arcs p).1) == d)) (by kernel_rfl) (beq_t (hc25))) ?_
          refine ql (.bool true) (by kernel_rfl) (by kernel_rfl) ?_
          refine ql (.slice (some ⟨g13, 0, none⟩) os.length co) (by kernel_rfl) (by kernel_rfl) ?_
          refine ql (.slice (some ad24) arcs.length c) (by kernel_rfl) (by kernel_rfl) ?_
          refine ql (.int .i64 p) (by kernel_rfl) (by kernel_rfl) ?_
          refine ql (.pointer (some (ad24.add (p.toNat * 2)))) (by kernel_rfl) (R_indexA (k := .i64) (p := ad24) (n := arcs.length) (c := c) (i := p) (by kernel_rfl) (by kernel_rfl) Try.underlying22 (by kernel_rfl) (by omega) (by omega)) ?_
          refine ql (.pointer (some ((ad24.add (p.toNat * 2)).add 1))) (by kernel_rfl) (by kernel_rfl) ?_
          refine ql (.int .i64 ((gx arcs p).2)) (by kernel_rfl) (R_load (p := (ad24.add (p.toNat * 2)).add 1) (by kernel_rfl) (by kernel_rfl) (by kernel_rfl) (HS.old0 (Rd.elem1 (k := 1) (f := arcC) (fun _ => rfl) hr (gx_eq (by omega) (by omega)) rfl))) ?_
          refine ql (.pointer (some ⟨g13, ((gx arcs p).2).toNat, none⟩)) (by kernel_rfl) (R_index1 (k := .i64) (g := g13) (n := os.length) (c := co) (i := (gx arcs p).2) (by kernel_rfl) (by kernel_rfl) Try.underlying28 (by kernel_rfl) (by omega) (by omega)) ?_
          refine ql (.int .i64 (rdI ds2 ((gx arcs p).2))) (by kernel_rfl) (R_load (p := ⟨g13, ((gx arcs p).2).toNat, none⟩) (by kernel_rfl) (by kernel_rfl) (by kernel_rfl) (HS.rcell (i := 0) rfl (ci_rd (by omega) (by omega)))) ?_
          by_cases hc26 : (rdI ds2 ((gx arcs p).2)) < (0 : Int)
          · skip
            refine ql (.bool true) (by kernel_rfl) (R_bool (p := (rdI ds2 ((gx arcs p).2)) < (0 : Int)) (by kernel_rfl) (hc26)) ?_
            refine ql (.bool true) (by kernel_rfl) (by kernel_rfl) ?_
            refine wpList_nil ?_
            refine x_then ?_
            refine wp_cond_true (by kernel_rfl) ?_
            refine wp_region_lit ?_
            refine ql (.slice (some ⟨g13, 0, none⟩) os.length co) (by kernel_rfl) (by kernel_rfl) ?_
            refine ql (.slice (some ad24) arcs.length c) (by kernel_rfl) (by kernel_rfl) ?_
            refine ql (.int .i64 p) (by kernel_rfl) (by kernel_rfl) ?_
            refine ql (.pointer (some (ad24.add (p.toNat * 2)))) (by kernel_rfl) (R_indexA (k := .i64) (p := ad24) (n := arcs.length) (c := c) (i := p) (by kernel_rfl) (by kernel_rfl) Try.underlying22 (by kernel_rfl) (by omega) (by omega)) ?_
            refine ql (.pointer (some ((ad24.add (p.toNat * 2)).add 1))) (by kernel_rfl) (by kernel_rfl) ?_
            refine ql (.int .i64 ((gx arcs p).2)) (by kernel_rfl) (R_load (p := (ad24.add (p.toNat * 2)).add 1) (by kernel_rfl) (by kernel_rfl) (by kernel_rfl) (HS.old0 (Rd.elem1 (k := 1) (f := arcC) (fun _ => rfl) hr (gx_eq (by omega) (by omega)) rfl))) ?_
            refine ql (.int .i64 d) (by kernel_rfl) (by kernel_rfl) ?_
            refine ql (.int .i64 (d + 1)) (by kernel_rfl) (R_int (by kernel_rfl) (w64 (by omega))) ?_
            refine ql (.pointer (some ⟨g13, ((gx arcs p).2).toNat, none⟩)) (by kernel_rfl) (R_index1 (k := .i64) (g := g13) (n := os.length) (c := co) (i := (gx arcs p).2) (by kernel_rfl) (by kernel_rfl) Try.underlying28 (by kernel_rfl) (by omega) (by omega)) ?_
            refine kr (v := .int .i64 (d + 1)) HS 0 rfl (((gx arcs p).2).toNat) [.int .i64 (d + 1)] (by kernel_rfl) (by kernel_rfl) (by kernel_rfl) (by kernel_rfl) (by kernel_rfl) (one_ (by kernel_rfl)) (by rw [ci_len]; first | omega | (simp only [List.length_singleton]; omega)) rfl ?_
            intro W27 H_
            obtain ⟨xs28, xs28_⟩ : ∃ z_ : List Int, z_ = (ds2).set ((gx arcs p).2).toNat (d + 1) := ⟨_, rfl⟩
            replace HS : St W (owns []) W27 [row (some ⟨g13, 0, none⟩) os.length co (ci .i64 xs28) 3 1] := H_.cast_ (by rw [xs28_, ← ci_set]; rfl)
            clear H_
            have xs28l : xs28.length = os.length := by rw [xs28_, List.length_set]; first | done | omega
            refine wpList_nil ?_
            refine x_inb ?_
            refine x_then ?_
            refine wp_region_lit ?_
            refine ql (.int .i64 p) (by kernel_rfl) (by kernel_rfl) ?_
            refine ql (.int .i64 (p + 1)) (by kernel_rfl) (R_int (by kernel_rfl) (w64 (by omega))) ?_
            refine ql (.int .i64 (p + 1)) (by kernel_rfl) (by kernel_rfl) ?_
            refine wpList_nil ?_
            have hst := rd_set hF hE d0 p0 (by omega) hc25 hc26 xs28_
            refine x_then ?_
            exact ⟨arcs.length - (p + 1).toNat, by omega, (fun k_ : Nat => List.getD ((.int .i64 (N : Int)) :: (.slice (some ad24) arcs.length c) :: (.int .i64 v) :: undef :: undef :: undef :: (.slice none 0 0) :: (.slice (some ⟨g13, 0, none⟩) os.length co) :: (.int .i64 i) :: (.int .i64 d) :: (.int .i64 (p + 1)) :: (.slice (some ⟨g1, 0, none⟩) 0 0) :: (.int .i64 i) :: (.int .i64 (N : Int)) :: (.bool false) :: ((J3 15)) :: ((J3 16)) :: ((J3 17)) :: ((J3 18)) :: ((J3 19)) :: (.int .i64 v) :: (.bool false) :: (.bool false) :: (.int .i64 v) :: (.int .i64 (N : Int)) :: (.bool false) :: (.bool false) :: undef :: (.slice (some ⟨g13, 0, none⟩) os.length co) :: (.int .i64 v) :: (.pointer (some ⟨g13, v.toNat, none⟩)) :: (.int .i64 d) :: (.int .i64 (N : Int)) :: (.bool true) :: ((J16 34)) :: ((J16 35)) :: (.int .i64 p) :: (.slice (some ad24) arcs.length c) :: (.int .i64 (arcs.length : Int)) :: (.bool true) :: (.int .i64 p) :: (.int .i64 (p + 1)) :: (.slice (some ⟨g13, 0, none⟩) os.length co) :: (.slice (some ad24) arcs.length c) :: (.int .i64 p) :: (.pointer (some (ad24.add (p.toNat * 2)))) :: (.pointer (some (ad24.add (p.toNat * 2)))) :: (.int .i64 ((gx arcs p).1)) :: (.pointer (some ⟨g13, ((gx arcs p).1).toNat, none⟩)) :: (.int .i64 (rdI ds2 ((gx arcs p).1))) :: (.int .i64 d) :: (.bool true) :: (.bool true) :: (.slice (some ⟨g13, 0, none⟩) os.length co) :: (.slice (some ad24) arcs.length c) :: (.int .i64 p) :: (.pointer (some (ad24.add (p.toNat * 2)))) :: (.pointer (some ((ad24.add (p.toNat * 2)).add 1))) :: (.int .i64 ((gx arcs p).2)) :: (.pointer (some ⟨g13, ((gx arcs p).2).toNat, none⟩)) :: (.int .i64 (rdI ds2 ((gx arcs p).2))) :: (.bool true) :: (.bool true) :: (.slice (some ⟨g13, 0, none⟩) os.length co) :: (.slice (some ad24) arcs.length c) :: (.int .i64 p) :: (.pointer (some (ad24.add (p.toNat * 2)))) :: (.pointer (some ((ad24.add (p.toNat * 2)).add 1))) :: (.int .i64 ((gx arcs p).2)) :: (.int .i64 d) :: (.int .i64 (d + 1)) :: (.pointer (some ⟨g13, ((gx arcs p).2).toNat, none⟩)) :: undef :: []) k_ undef), p + 1, xs28, congrArg Fr (by kernel_rfl), rfl, by omega, by omega, hst, hst.ld, HS⟩
          · skip
            refine ql (.bool false) (by kernel_rfl) (R_nbool (p := (rdI ds2 ((gx arcs p).2)) < (0 : Int)) (by kernel_rfl) (hc26)) ?_
            refine ql (.bool false) (by kernel_rfl) (by kernel_rfl) ?_
            refine wpList_nil ?_
            refine x_then ?_
            refine wp_cond_false (by kernel_rfl) ?_
            refine wp_skip ?_
            refine x_inb ?_
            refine x_then ?_
            refine wp_region_lit ?_
            refine ql (.int .i64 p) (by kernel_rfl) (by kernel_rfl) ?_
            refine ql (.int .i64 (p + 1)) (by kernel_rfl) (R_int (by kernel_rfl) (w64 (by omega))) ?_
            refine ql (.int .i64 (p + 1)) (by kernel_rfl) (by kernel_rfl) ?_
            refine wpList_nil ?_
            have hst := rd_skip hF hE (fun _ => hc26)
            refine x_then ?_
            exact ⟨arcs.length - (p + 1).toNat, by omega, (fun k_ : Nat => List.getD ((.int .i64 (N : Int)) :: (.slice (some ad24) arcs.length c) :: (.int .i64 v) :: undef :: undef :: undef :: (.slice none 0 0) :: (.slice (some ⟨g13, 0, none⟩) os.length co) :: (.int .i64 i) :: (.int .i64 d) :: (.int .i64 (p + 1)) :: (.slice (some ⟨g1, 0, none⟩) 0 0) :: (.int .i64 i) :: (.int .i64 (N : Int)) :: (.bool false) :: ((J3 15)) :: ((J3 16)) :: ((J3 17)) :: ((J3 18)) :: ((J3 19)) :: (.int .i64 v) :: (.bool false) :: (.bool false) :: (.int .i64 v) :: (.int .i64 (N : Int)) :: (.bool false) :: (.bool false) :: undef :: (.slice (some ⟨g13, 0, none⟩) os.length co) :: (.int .i64 v) :: (.pointer (some ⟨g13, v.toNat, none⟩)) :: (.int .i64 d) :: (.int .i64 (N : Int)) :: (.bool true) :: ((J16 34)) :: ((J16 35)) :: (.int .i64 p) :: (.slice (some ad24) arcs.length c) :: (.int .i64 (arcs.length : Int)) :: (.bool true) :: (.int .i64 p) :: (.int .i64 (p + 1)) :: (.slice (some ⟨g13, 0, none⟩) os.length co) :: (.slice (some ad24) arcs.length c) :: (.int .i64 p) :: (.pointer (some (ad24.add (p.toNat * 2)))) :: (.pointer (some (ad24.add (p.toNat * 2)))) :: (.int .i64 ((gx arcs p).1)) :: (.pointer (some ⟨g13, ((gx arcs p).1).toNat, none⟩)) :: (.int .i64 (rdI ds2 ((gx arcs p).1))) :: (.int .i64 d) :: (.bool true) :: (.bool true) :: (.slice (some ⟨g13, 0, none⟩) os.length co) :: (.slice (some ad24) arcs.length c) :: (.int .i64 p) :: (.pointer (some (ad24.add (p.toNat * 2)))) :: (.pointer (some ((ad24.add (p.toNat * 2)).add 1))) :: (.int .i64 ((gx arcs p).2)) :: (.pointer (some ⟨g13, ((gx arcs p).2).toNat, none⟩)) :: (.int .i64 (rdI ds2 ((gx arcs p).2))) :: (.bool false) :: (.bool false) :: ((J20 63)) :: ((J20 64)) :: ((J20 65)) :: ((J20 66)) :: ((J20 67)) :: ((J20 68)) :: ((J20 69)) :: ((J20 70)) :: ((J20 71)) :: undef :: []) k_ undef), p + 1, ds2, congrArg Fr (by kernel_rfl), rfl, by omega, by omega, hst, hst.ld, HS⟩
        · skip
          refine ql (.bool false) (by kernel_rfl) (R_beq (b := (rdI ds2 ((gx arcs p).1) == d)) (by kernel_rfl) (beq_f (hc25))) ?_
          refine ql (.bool false) (by kernel_rfl) (by kernel_rfl) ?_
          refine qln (by kernel_rfl) ?_
          refine qln (by kernel_rfl) ?_
          refine qln (by kernel_rfl) ?_
          refine qln (by kernel_rfl) ?_
          refine qln (by kernel_rfl) ?_
          refine qln (by kernel_rfl) ?_
          refine qln (by kernel_rfl) ?_
          refine qln (by kernel_rfl) ?_
          refine qln (by kernel_rfl) ?_
          refine ql (.bool false) (by kernel_rfl) (by kernel_rfl) ?_
          refine wpList_nil ?_
          refine x_then ?_
          refine wp_cond_false (by kernel_rfl) ?_
          refine wp_skip ?_
          refine x_inb ?_
          refine x_then ?_
          refine wp_region_lit ?_
          refine ql (.int .i64 p) (by kernel_rfl) (by kernel_rfl) ?_
          refine ql (.int .i64 (p + 1)) (by kernel_rfl) (R_int (by kernel_rfl) (w64 (by omega))) ?_
          refine ql (.int .i64 (p + 1)) (by kernel_rfl) (by kernel_rfl) ?_
          refine wpList_nil ?_
          have hst := rd_skip hF hE (fun h_ => absurd h_ hc25)
          refine x_then ?_
          exact ⟨arcs.length - (p + 1).toNat, by omega, (fun k_ : Nat => List.getD ((.int .i64 (N : Int)) :: (.slice (some ad24) arcs.length c) :: (.int .i64 v) :: undef :: undef :: undef :: (.slice none 0 0) :: (.slice (some ⟨g13, 0, none⟩) os.length co) :: (.int .i64 i) :: (.int .i64 d) :: (.int .i64 (p + 1)) :: (.slice (some ⟨g1, 0, none⟩) 0 0) :: (.int .i64 i) :: (.int .i64 (N : Int)) :: (.bool false) :: ((J3 15)) :: ((J3 16)) :: ((J3 17)) :: ((J3 18)) :: ((J3 19)) :: (.int .i64 v) :: (.bool false) :: (.bool false) :: (.int .i64 v) :: (.int .i64 (N : Int)) :: (.bool false) :: (.bool false) :: undef :: (.slice (some ⟨g13, 0, none⟩) os.length co) :: (.int .i64 v) :: (.pointer (some ⟨g13, v.toNat, none⟩)) :: (.int .i64 d) :: (.int .i64 (N : Int)) :: (.bool true) :: ((J16 34)) :: ((J16 35)) :: (.int .i64 p) :: (.slice (some ad24) arcs.length c) :: (.int .i64 (arcs.length : Int)) :: (.bool true) :: (.int .i64 p) :: (.int .i64 (p + 1)) :: (.slice (some ⟨g13, 0, none⟩) os.length co) :: (.slice (some ad24) arcs.length c) :: (.int .i64 p) :: (.pointer (some (ad24.add (p.toNat * 2)))) :: (.pointer (some (ad24.add (p.toNat * 2)))) :: (.int .i64 ((gx arcs p).1)) :: (.pointer (some ⟨g13, ((gx arcs p).1).toNat, none⟩)) :: (.int .i64 (rdI ds2 ((gx arcs p).1))) :: (.int .i64 d) :: (.bool false) :: (.bool false) :: undef :: undef :: undef :: undef :: undef :: undef :: undef :: undef :: undef :: (.bool false) :: ((J20 63)) :: ((J20 64)) :: ((J20 65)) :: ((J20 66)) :: ((J20 67)) :: ((J20 68)) :: ((J20 69)) :: ((J20 70)) :: ((J20 71)) :: undef :: []) k_ undef), p + 1, ds2, congrArg Fr (by kernel_rfl), rfl, by omega, by omega, hst, hst.ld, HS⟩
      · skip
        refine ql (.bool false) (by kernel_rfl) (R_nbool (p := p < (arcs.length : Int)) (by kernel_rfl) (hc23)) ?_
        refine wpList_nil ?_
        refine x_then ?_
        refine wp_cond_false (by kernel_rfl) ?_
        refine wp_exit ?_
        refine x_thenE ?_
        refine x_thenE ?_
        refine x_hit ?_
        refine x_inb ?_
        refine x_then ?_
        refine wp_region_lit ?_
        refine ql (.int .i64 d) (by kernel_rfl) (by kernel_rfl) ?_
        refine ql (.int .i64 (d + 1)) (by kernel_rfl) (R_int (by kernel_rfl) (w64 (by omega))) ?_
        refine ql (.int .i64 (d + 1)) (by kernel_rfl) (by kernel_rfl) ?_
        refine wpList_nil ?_
        refine x_then ?_
        exact ⟨N - (d + 1).toNat, by omega, (fun k_ : Nat => List.getD ((.int .i64 (N : Int)) :: (.slice A arcs.length c) :: (.int .i64 v) :: undef :: undef :: undef :: (.slice none 0 0) :: (.slice (some ⟨g13, 0, none⟩) os.length co) :: (.int .i64 i) :: (.int .i64 (d + 1)) :: (.int .i64 p) :: (.slice (some ⟨g1, 0, none⟩) 0 0) :: (.int .i64 i) :: (.int .i64 (N : Int)) :: (.bool false) :: ((J3 15)) :: ((J3 16)) :: ((J3 17)) :: ((J3 18)) :: ((J3 19)) :: (.int .i64 v) :: (.bool false) :: (.bool false) :: (.int .i64 v) :: (.int .i64 (N : Int)) :: (.bool false) :: (.bool false) :: undef :: (.slice (some ⟨g13, 0, none⟩) os.length co) :: (.int .i64 v) :: (.pointer (some ⟨g13, v.toNat, none⟩)) :: (.int .i64 d) :: (.int .i64 (N : Int)) :: (.bool true) :: (.int .i64 d) :: (.int .i64 (d + 1)) :: (.int .i64 p) :: (.slice A arcs.length c) :: (.int .i64 (arcs.length : Int)) :: (.bool false) :: ((J20 40)) :: ((J20 41)) :: ((J20 42)) :: ((J20 43)) :: ((J20 44)) :: ((J20 45)) :: ((J20 46)) :: ((J20 47)) :: ((J20 48)) :: ((J20 49)) :: ((J20 50)) :: ((J20 51)) :: ((J20 52)) :: ((J20 53)) :: ((J20 54)) :: ((J20 55)) :: ((J20 56)) :: ((J20 57)) :: ((J20 58)) :: ((J20 59)) :: ((J20 60)) :: ((J20 61)) :: ((J20 62)) :: ((J20 63)) :: ((J20 64)) :: ((J20 65)) :: ((J20 66)) :: ((J20 67)) :: ((J20 68)) :: ((J20 69)) :: ((J20 70)) :: ((J20 71)) :: undef :: []) k_ undef), d + 1, ds2, congrArg Fr (by kernel_rfl), rfl, by omega, by omega, rd_out hE (by omega), hdl2, HS⟩
    · skip
      refine ql (.bool false) (by kernel_rfl) (R_nbool (p := d < (N : Int)) (by kernel_rfl) (hc19)) ?_
      refine wpList_nil ?_
      refine x_then ?_
      refine wp_cond_false (by kernel_rfl) ?_
      refine wp_exit ?_
      refine x_thenE ?_
      refine x_thenE ?_
      refine x_hit ?_
      refine x_then ?_
      refine wp_seq ?_
      refine wp_region_lit ?_
      refine ql (.slice (some ⟨g13, 0, none⟩) os.length co) (by kernel_rfl) (by kernel_rfl) ?_
      refine ql (.slice (some ⟨g13, 0, none⟩) os.length co) (by kernel_rfl) (by kernel_rfl) ?_
      refine wpList_nil ?_
      refine x_then ?_
      refine wp_ret ?_
      refine ret_ (.slice (some ⟨g13, 0, none⟩) os.length co) (by kernel_rfl) ?_
      rw [show os.length = ds.length by omega] at HS ⊢
      exact ⟨_, _, ds, rfl, HS, rd_done hF hD (by omega)⟩

set_option maxRecDepth 100000 in
set_option maxHeartbeats 1000000 in
theorem rdist_no (N : Nat) (A : Option Addr) (c : Nat) (arcs : List (Int × Int)) (W : World) (hr : Rd W A (cf arcC arcs)) (hl : arcs.length ≤ 1048576) (v : Int) (hF : Fine N arcs) (hN : N ≤ 1048576) (hv : ¬ (0 ≤ v ∧ v < N)) : Calls Try.prog 33 #[.int .i64 (N : Int), .slice A arcs.length c, .int .i64 v] W fun e W' => ∃ A' c' ds, e = .returned (.slice A' ds.length c') ∧ St W (owns []) W' [row A' ds.length c' (ci .i64 ds) 3 1] ∧ DS N arcs v ds := by
  have HS : St W (owns []) W [] := St.start W _
  refine calls_enter ((.int .i64 (N : Int)) :: (.slice A arcs.length c) :: (.int .i64 v) :: undef :: undef :: undef :: undef :: undef :: undef :: undef :: undef :: undef :: undef :: undef :: undef :: undef :: undef :: undef :: undef :: undef :: undef :: undef :: undef :: undef :: undef :: undef :: undef :: undef :: undef :: undef :: undef :: undef :: undef :: undef :: undef :: undef :: undef :: undef :: undef :: undef :: undef :: undef :: undef :: undef :: undef :: undef :: undef :: undef :: undef :: undef :: undef :: undef :: undef :: undef :: undef :: undef :: undef :: undef :: undef :: undef :: undef :: undef :: undef :: undef :: undef :: undef :: undef :: undef :: undef :: undef :: undef :: undef :: undef :: []) Try.func33 rfl (by kernel_rfl) ?_
  refine wp_seq ?_
  refine wp_region_lit ?_
  refine ql (.slice none 0 0) (by kernel_rfl) (by kernel_rfl) ?_
  refine wpList_nil ?_
  refine x_then ?_
  refine wp_seq ?_
  refine wp_region_lit ?_
  refine kl HS 0 [] 3 1 (by kernel_rfl) (by kernel_rfl) rfl (by decide) ?_
  intro g1 W2 H_
  replace HS : St W (owns []) W2 [row (some ⟨g1, 0, none⟩) 0 0 (ci .i64 ([])) 3 1] := H_.cast_ (by kernel_rfl)
  clear H_
  refine ql (.slice (some ⟨g1, 0, none⟩) 0 0) (by kernel_rfl) (by kernel_rfl) ?_
  refine wpList_nil ?_
  refine x_then ?_
  refine wp_seq ?_
  refine wp_seq ?_
  refine wp_region_lit ?_
  refine ql (.int .i64 0) (by kernel_rfl) (by kernel_rfl) ?_
  refine wpList_nil ?_
  refine x_then ?_
  refine wp_block ?_
  refine wp_loop_ghost (fun kq a' w' => ∃ (J3 : Nat → Value) (i : Int) (Ao : Option Addr) (co : Nat) (os : List Int) , a' = Fr ((.int .i64 (N : Int)) :: (.slice A arcs.length c) :: (.int .i64 v) :: undef :: undef :: undef :: (.slice none 0 0) :: (.slice Ao os.length co) :: (.int .i64 i) :: undef :: undef :: (.slice (some ⟨g1, 0, none⟩) 0 0) :: ((J3 12)) :: ((J3 13)) :: ((J3 14)) :: ((J3 15)) :: ((J3 16)) :: ((J3 17)) :: ((J3 18)) :: ((J3 19)) :: undef :: undef :: undef :: undef :: undef :: undef :: undef :: undef :: undef :: undef :: undef :: undef :: undef :: undef :: undef :: undef :: undef :: undef :: undef :: undef :: undef :: undef :: undef :: undef :: undef :: undef :: undef :: undef :: undef :: undef :: undef :: undef :: undef :: undef :: undef :: undef :: undef :: undef :: undef :: undef :: undef :: undef :: undef :: undef :: undef :: undef :: undef :: undef :: undef :: undef :: undef :: undef :: undef :: []) ∧ kq = (N - (i).toNat) ∧ (0 ≤ i) ∧ (i ≤ N) ∧ (os = List.replicate (i).toNat (-1)) ∧ ((os.length : Int) = i) ∧ St W (owns []) w' [row Ao os.length co (ci .i64 os) 3 1]) (N - ((0 : Int)).toNat) ⟨(fun k_ : Nat => List.getD ((.int .i64 (N : Int)) :: (.slice A arcs.length c) :: (.int .i64 v) :: undef :: undef :: undef :: (.slice none 0 0) :: (.slice (some ⟨g1, 0, none⟩) 0 0) :: (.int .i64 0) :: undef :: undef :: (.slice (some ⟨g1, 0, none⟩) 0 0) :: undef :: undef :: undef :: undef :: undef :: undef :: undef :: undef :: undef :: undef :: undef :: undef :: undef :: undef :: undef :: undef :: undef :: undef :: undef :: undef :: undef :: undef :: undef :: undef :: undef :: undef :: undef :: undef :: undef :: undef :: undef :: undef :: undef :: undef :: undef :: undef :: undef :: undef :: undef :: undef :: undef :: undef :: undef :: undef :: undef :: undef :: undef :: undef :: undef :: undef :: undef :: undef :: undef :: undef :: undef :: undef :: undef :: undef :: undef :: undef :: undef :: []) k_ undef), (0 : Int), some ⟨g1, 0, none⟩, 0, ([] : List Int), congrArg Fr (by kernel_rfl), rfl, by omega, by omega, by rfl, by simp, HS⟩ ?_
  clear HS
  intro kq4 a' W5 hrel
  obtain ⟨J3, i, Ao, co, os, rfl, hk, i0, i1, ho, hol, HS⟩ := hrel
  refine wp_seq ?_
  refine wp_seq ?_
  refine wp_region_lit ?_
  refine ql (.int .i64 i) (by kernel_rfl) (by kernel_rfl) ?_
  refine ql (.int .i64 (N : Int)) (by kernel_rfl) (by kernel_rfl) ?_
  by_cases hc6 : i < (N : Int)
  · skip
    refine ql (.bool true) (by kernel_rfl) (R_bool (p := i < (N : Int)) (by kernel_rfl) (hc6)) ?_
    refine wpList_nil ?_
    refine x_then ?_
    refine wp_cond_true (by kernel_rfl) ?_
    refine wp_skip ?_
    refine x_then ?_
    refine wp_seq ?_
    refine wp_block ?_
    refine wp_region_lit ?_
    refine ql (.slice Ao os.length co) (by kernel_rfl) (by kernel_rfl) ?_
    refine kl HS 1 [.int .i64 (-1)] 3 1 (by kernel_rfl) (by kernel_rfl) rfl (by decide) ?_
    intro g7 W8 H_
    replace HS : St W (owns []) W8 [row (some ⟨g7, 0, none⟩) 1 1 (ci .i64 ([-1])) 3 1, row Ao os.length co (ci .i64 os) 3 1] := H_.cast_ (by kernel_rfl)
    clear H_
    obtain ⟨xs12, xs12_⟩ : ∃ z_ : List Int, z_ = os ++ ([-1]) := ⟨_, rfl⟩
    have xs12l : xs12.length = os.length + 1 := by rw [xs12_, List.length_append] <;> (try simp only [List.length_cons, List.length_nil]) <;> omega
    refine ka1 HS 1 rfl (Src.of_row HS (i := 0) rfl ci_one) [.int .i64 0] 8 xs12.length (ci .i64 xs12) (by omega) (by rw [xs12_, ci_app]) (by kernel_rfl) (by kernel_rfl) (by kernel_rfl) Try.underlying28 (by kernel_rfl) (by kernel_rfl) (by kernel_rfl) (by kernel_rfl) (by decide) (by omega) (by omega) ?_
    intro A9 c10 W11 H_
    replace HS : St W (owns []) W11 [row (some ⟨g7, 0, none⟩) 1 1 (ci .i64 ([-1])) 3 1, row A9 xs12.length c10 (ci .i64 xs12) 3 1] := H_
    clear H_
    refine ql (.slice A9 xs12.length c10) (by kernel_rfl) (by kernel_rfl) ?_
    refine wpList_nil ?_
    refine x_inb ?_
    refine x_then ?_
    refine wp_region_lit ?_
    refine ql (.int .i64 i) (by kernel_rfl) (by kernel_rfl) ?_
    refine ql (.int .i64 (i + 1)) (by kernel_rfl) (R_int (by kernel_rfl) (w64 (by omega))) ?_
    refine ql (.int .i64 (i + 1)) (by kernel_rfl) (by kernel_rfl) ?_
    refine wpList_nil ?_
    replace HS := HS.drop1
    refine x_then ?_
    exact ⟨N - (i + 1).toNat, by omega, (fun k_ : Nat => List.getD ((.int .i64 (N : Int)) :: (.slice A arcs.length c) :: (.int .i64 v) :: undef :: undef :: undef :: (.slice none 0 0) :: (.slice A9 xs12.length c10) :: (.int .i64 (i + 1)) :: undef :: undef :: (.slice (some ⟨g1, 0, none⟩) 0 0) :: (.int .i64 i) :: (.int .i64 (N : Int)) :: (.bool true) :: (.int .i64 i) :: (.int .i64 (i + 1)) :: (.slice Ao os.length co) :: (.slice (some ⟨g7, 0, none⟩) 1 1) :: (.slice A9 xs12.length c10) :: undef :: undef :: undef :: undef :: undef :: undef :: undef :: undef :: undef :: undef :: undef :: undef :: undef :: undef :: undef :: undef :: undef :: undef :: undef :: undef :: undef :: undef :: undef :: undef :: undef :: undef :: undef :: undef :: undef :: undef :: undef :: undef :: undef :: undef :: undef :: undef :: undef :: undef :: undef :: undef :: undef :: undef :: undef :: undef :: undef :: undef :: undef :: undef :: undef :: undef :: undef :: undef :: undef :: []) k_ undef), i + 1, A9, c10, xs12, congrArg Fr (by kernel_rfl), rfl, by omega, by omega, by rw [xs12_, ho, show (i + 1).toNat = i.toNat + 1 by omega, List.replicate_succ'], by omega, HS⟩
  · skip
    refine ql (.bool false) (by kernel_rfl) (R_nbool (p := i < (N : Int)) (by kernel_rfl) (hc6)) ?_
    refine wpList_nil ?_
    refine x_then ?_
    refine wp_cond_false (by kernel_rfl) ?_
    refine wp_exit ?_
    refine x_thenE ?_
    refine x_thenE ?_
    refine x_hit ?_
    refine x_then ?_
    refine wp_seq ?_
    refine wp_seq ?_
    have he : os = List.replicate N (-1) := by rw [ho, show i.toNat = N by omega]
    have hoN : os.length = N := by omega
    refine wp_region_lit ?_
    refine ql (.int .i64 v) (by kernel_rfl) (by kernel_rfl) ?_
    by_cases hc13 : v < (0 : Int)
    · skip
      refine ql (.bool true) (by kernel_rfl) (R_bool (p := v < (0 : Int)) (by kernel_rfl) (hc13)) ?_
      refine ql (.bool true) (by kernel_rfl) (by kernel_rfl) ?_
      refine qln (by kernel_rfl) ?_
      refine qln (by kernel_rfl) ?_
      refine qln (by kernel_rfl) ?_
      refine ql (.bool true) (by kernel_rfl) (by kernel_rfl) ?_
      refine wpList_nil ?_
      refine x_then ?_
      refine wp_cond_true (by kernel_rfl) ?_
      refine wp_seq ?_
      refine wp_region_lit ?_
      refine ql (.slice Ao os.length co) (by kernel_rfl) (by kernel_rfl) ?_
      refine ql (.slice Ao os.length co) (by kernel_rfl) (by kernel_rfl) ?_
      refine wpList_nil ?_
      refine x_then ?_
      refine wp_ret ?_
      refine x_thenR ?_
      refine ret_ (.slice Ao os.length co) (by kernel_rfl) ?_
      exact ⟨_, _, os, rfl, HS, by rw [he]; exact ds_none hF hv⟩
    · skip
      refine ql (.bool false) (by kernel_rfl) (R_nbool (p := v < (0 : Int)) (by kernel_rfl) (hc13)) ?_
      refine ql (.bool false) (by kernel_rfl) (by kernel_rfl) ?_
      refine ql (.int .i64 v) (by kernel_rfl) (by kernel_rfl) ?_
      refine ql (.int .i64 (N : Int)) (by kernel_rfl) (by kernel_rfl) ?_
      refine ql (.bool true) (by kernel_rfl) (R_bool (p := v ≥ (N : Int)) (by kernel_rfl) (by omega)) ?_
      refine ql (.bool true) (by kernel_rfl) (by kernel_rfl) ?_
      refine wpList_nil ?_
      refine x_then ?_
      refine wp_cond_true (by kernel_rfl) ?_
      refine wp_seq ?_
      refine wp_region_lit ?_
      refine ql (.slice Ao os.length co) (by kernel_rfl) (by kernel_rfl) ?_
      refine ql (.slice Ao os.length co) (by kernel_rfl) (by kernel_rfl) ?_
      refine wpList_nil ?_
      refine x_then ?_
      refine wp_ret ?_
      refine x_thenR ?_
      refine ret_ (.slice Ao os.length co) (by kernel_rfl) ?_
      exact ⟨_, _, os, rfl, HS, by rw [he]; exact ds_none hF hv⟩

theorem rdist (N : Nat) (A : Option Addr) (c : Nat) (arcs : List (Int × Int)) (W : World) (hr : Rd W A (cf arcC arcs)) (hl : arcs.length ≤ 1048576) (v : Int) (hF : Fine N arcs) (hN : N ≤ 1048576) (ds : List Int) (hD : DS N arcs v ds) : Calls Try.prog 33 #[.int .i64 (N : Int), .slice A arcs.length c, .int .i64 v] W fun e W' => ∃ A' c', e = .returned (.slice A' ds.length c') ∧ St W (owns []) W' [row A' ds.length c' (ci .i64 ds) 3 1] := by
  by_cases hv : 0 ≤ v ∧ v < N
  · refine (rdist_yes N A c arcs W hr hl v hF hN hv.1 hv.2).mono ?_
    rintro e W' ⟨A', c', es, he, hs, hd⟩
    obtain rfl := ds_eq hF hD hd
    exact ⟨A', c', he, hs⟩
  · refine (rdist_no N A c arcs W hr hl v hF hN hv).mono ?_
    rintro e W' ⟨A', c', es, he, hs, hd⟩
    obtain rfl := ds_eq hF hD hd
    exact ⟨A', c', he, hs⟩


/-- A tree in memory. -/
def TAt (W : World) (t : Nat) (ds bs : List Int) : Prop := ∃ D B cd cb, W.cell? ⟨t, 1, none⟩ = some (.slice D ds.length cd) ∧ W.cell? ⟨t, 2, none⟩ = some (.slice B bs.length cb) ∧ Rd W D (ci .i64 ds) ∧ Rd W B (ci .i64 bs) ∧ bs.length = ds.length
theorem cell_below {W W' : World} {p : Addr} {v : Value} (h : W.cell? p = some v) (hb : Below W.heap.size W W') : W'.cell? p = some v := (World.cell?_of_block (hb.block p.block (World.block_lt_of_cell? W p h))).trans h
theorem TAt.below {W W' : World} {t : Nat} {ds bs : List Int} (h : TAt W t ds bs) (hb : Below W.heap.size W W') : TAt W' t ds bs := by
  obtain ⟨D, B, cd, cb, h1, h2, h3, h4, h5⟩ := h
  exact ⟨D, B, cd, cb, cell_below h1 hb, cell_below h2 hb, h3.below hb, h4.below hb, h5⟩
theorem TAt.of {W0 W : World} {M : Nat → Prop} {L : List Ent} {N t tb : Nat} {v : Value} {D B : Option Addr} {cd cb : Nat} {ds bs : List Int} (HS : St W0 M W (blk t [v, .slice D N cd, .slice B N cb] tb :: row D N cd (ci .i64 ds) 3 1 :: row B N cb (ci .i64 bs) 3 1 :: L)) (hd : ds.length = N) (hb : bs.length = N) : TAt W t ds bs := by
  subst hd
  refine ⟨D, B, cd, cb, HS.cell (i := 0) (j := 1) rfl rfl, ?_, Rd.row HS (i := 1) rfl, Rd.row HS (i := 2) rfl, hb⟩
  rw [hb]; exact HS.cell (i := 0) (j := 2) rfl rfl
theorem tdist_y (t : Nat) (ds bs : List Int) (W : World) (hT : TAt W t ds bs) (v : Int) (h0 : 0 ≤ v) (h1' : v < ds.length) : Calls Try.prog 31 #[.pointer (some ⟨t, 0, none⟩), .int .i64 v] W fun e W' => e = .returned (.int .i64 (rdI ds v)) ∧ St W (owns []) W' [] := by
  obtain ⟨D, B, cd, cb, h1, h2, h3, h4, h5⟩ := hT
  exact tdist_yes t D B cd cb ds bs W v h1 h2 h3 h4 h5 ⟨h0, h1'⟩

theorem tdist_n (t : Nat) (ds bs : List Int) (W : World) (hT : TAt W t ds bs) (v : Int) (hv : ¬ (0 ≤ v ∧ v < ds.length)) : Calls Try.prog 31 #[.pointer (some ⟨t, 0, none⟩), .int .i64 v] W fun e W' => e = .returned (.int .i64 (-1)) ∧ St W (owns []) W' [] := by
  obtain ⟨D, B, cd, cb, h1, h2, h3, h4, h5⟩ := hT
  exact tdist_no t D B cd cb ds bs W v h1 h2 h3 h4 h5 hv

theorem tback_y (t : Nat) (ds bs : List Int) (W : World) (hT : TAt W t ds bs) (v : Int) (h0 : 0 ≤ v) (h1' : v < ds.length) : Calls Try.prog 34 #[.pointer (some ⟨t, 0, none⟩), .int .i64 v] W fun e W' => e = .returned (.int .i64 (rdI bs v)) ∧ St W (owns []) W' [] := by
  obtain ⟨D, B, cd, cb, h1, h2, h3, h4, h5⟩ := hT
  exact tback_yes t D B cd cb ds bs W v h1 h2 h3 h4 h5 ⟨h0, h1'⟩

theorem tlayer_y (t : Nat) (ds bs : List Int) (W : World) (hT : TAt W t ds bs) (v : Int) (hl : ds.length ≤ 1099511627776) (h0 : 0 ≤ v) : Calls Try.prog 36 #[.pointer (some ⟨t, 0, none⟩), .int .i64 v] W fun e W' => ∃ A' c', e = .returned (.slice A' (layr ds v ds.length).length c') ∧ St W (owns []) W' [row A' (layr ds v ds.length).length c' (ci .i64 (layr ds v ds.length)) 3 1] := by
  obtain ⟨D, B, cd, cb, h1, h2, h3, h4, h5⟩ := hT
  exact tlayer t D B cd cb ds bs W v h1 h2 h3 h4 h5 hl h0

theorem fromT_yes (g N : Nat) (arcs : List (Int × Int)) (v : Int) (W : World) (hG : GAt W g N arcs) (hN : N ≤ 1048576) (hm : arcs.length ≤ 67108864) (hv0 : 0 ≤ v) (hv1 : v < N) : Calls Try.prog 30 #[.pointer (some ⟨g, 0, none⟩), .int .i64 v, .pointer none] W fun e W' => ∃ (t : Nat) (ds bs : List Int), e = .returned (.pointer (some ⟨t, 0, none⟩)) ∧ St W (owns []) W' [] ∧ TAt W' t ds bs ∧ DS N arcs v ds ∧ BK N arcs ds bs := by
  refine (from_yes g N arcs v W hG hN hm hv0 hv1).mono ?_
  rintro e W' ⟨t, D, B, cd, cb, ds, bs, he, hs, hd, hb⟩
  exact ⟨t, ds, bs, he, hs.drop1.drop1.drop1, TAt.of hs hd.ld hb.lb, hd, hb⟩

theorem fromT_no (g N : Nat) (arcs : List (Int × Int)) (v : Int) (W : World) (hG : GAt W g N arcs) (hN : N ≤ 1048576) (hm : arcs.length ≤ 67108864) (hv : ¬ (0 ≤ v ∧ v < N)) : Calls Try.prog 30 #[.pointer (some ⟨g, 0, none⟩), .int .i64 v, .pointer none] W fun e W' => ∃ (t : Nat) (ds bs : List Int), e = .returned (.pointer (some ⟨t, 0, none⟩)) ∧ St W (owns []) W' [] ∧ TAt W' t ds bs ∧ DS N arcs v ds ∧ BK N arcs ds bs := by
  refine (from_no g N arcs v W hG hN hm hv).mono ?_
  rintro e W' ⟨t, D, B, cd, cb, ds, bs, he, hs, hd, hb⟩
  exact ⟨t, ds, bs, he, hs.drop1.drop1.drop1, TAt.of hs hd.ld hb.lb, hd, hb⟩

theorem fromT (g N : Nat) (arcs : List (Int × Int)) (v : Int) (W : World) (hG : GAt W g N arcs) (hN : N ≤ 1048576) (hm : arcs.length ≤ 67108864) : Calls Try.prog 30 #[.pointer (some ⟨g, 0, none⟩), .int .i64 v, .pointer none] W fun e W' => ∃ (t : Nat) (ds bs : List Int), e = .returned (.pointer (some ⟨t, 0, none⟩)) ∧ St W (owns []) W' [] ∧ TAt W' t ds bs ∧ DS N arcs v ds ∧ BK N arcs ds bs := by
  by_cases hv : 0 ≤ v ∧ v < N
  · exact fromT_yes g N arcs v W hG hN hm hv.1 hv.2
  · exact fromT_no g N arcs v W hG hN hm hv
theorem fromN (v : Int) (W : World) : Calls Try.prog 30 #[.pointer none, .int .i64 v, .pointer none] W fun e W' => ∃ (t : Nat), e = .returned (.pointer (some ⟨t, 0, none⟩)) ∧ St W (owns []) W' [] ∧ TAt W' t [] [] := by
  refine (from_nil v W).mono ?_
  rintro e W' ⟨t, D, B, cd, cb, he, hs⟩
  exact ⟨t, he, hs.drop1.drop1.drop1, TAt.of hs rfl rfl⟩


end Go.Proofs.Ythfpdpjccnnlhaa.GPathShort
