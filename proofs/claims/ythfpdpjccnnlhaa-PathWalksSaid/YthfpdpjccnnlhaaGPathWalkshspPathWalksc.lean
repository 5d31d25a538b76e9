/- Written for this claim by gp.py, a program of this session's, over the kit's print. Lean checks it. -/
import Derived.Test.YthfpdpjccnnlhaaGPathWalksx0
import Derived.Test.YthfpdpjccnnlhaaGPathWalkshx
import Derived.Test.YthfpdpjccnnlhaaGPathWalkshspPathWalksa
import Derived.Test.YthfpdpjccnnlhaaGPathWalkshspPathWalksb
import Derived.WalkKit
import Derived.StillTailTactics
import Derived.Deep.LoopGhost
import Derived.KernelRfl
import Derived.Deep.OwnRows
import Derived.Laws.OwnMore
import Derived.Laws.MakeOwn
import Derived.Maps.AppendAt
import Derived.OrdersHeld
namespace Go.Proofs.Ythfpdpjccnnlhaa.GPathWalks
open Go.RowKit Go.Proofs.YthfpdpjccnnlhaaW.PrintWords Go.Proofs.YthfpdpjccnnlhaaW.PrintLast Go.Proofs.YthfpdpjccnnlhaaW.PrintMore
attribute [local go_sem] max2_int min2_int max_two min_two max_three min_three max_four min_four   -- for this text's walks alone
set_option linter.unusedVariables false
set_option linter.unusedSimpArgs false

--import Derived.WalkKit
--import Derived.StillTailTactics
--import Derived.Deep.LoopGhost
--import Derived.KernelRfl
--import Derived.Deep.OwnRows
--import Derived.Laws.OwnMore
--import Derived.Laws.MakeOwn
--import Derived.Maps.AppendAt
--import Derived.OrdersHeld
attribute [local irreducible] wpStill wpList Code.wp TA

theorem GAt.fine {W : World} {g N : Nat} {arcs : List (Int × Int)} (h : GAt W g N arcs) : Fine N arcs := by
  obtain ⟨A1, c1, A2, c2, A3, c3, A4, c4, A5, c5, os, js, hB, r1, r2, r3, r4, r5, l1, l2, hF, rest⟩ := h; exact hF

theorem arc_yes (g N : Nat) (arcs : List (Int × Int)) (W : World) (hG : GAt W g N arcs) (i : Int) (h0 : 0 ≤ i) (h1 : i < arcs.length) : Calls Try.prog 22 #[.pointer (some ⟨g, 0, none⟩), .int .i64 i] W fun e W' => e = .returned (.tuple #[.agg #[.int .i64 (gx arcs i).1, .int .i64 (gx arcs i).2], .bool true]) ∧ St W (owns []) W' [] :=
  (arc_some g N arcs W hG i).mono fun e W' h => h.elim (fun ⟨_, _, x⟩ => x) (fun ⟨hn, _⟩ => absurd ⟨h0, h1⟩ hn)

set_option maxRecDepth 100000 in
set_option maxHeartbeats 1000000 in
theorem from_yes (g N : Nat) (arcs : List (Int × Int)) (v : Int) (W : World) (hG : GAt W g N arcs) (hN : N ≤ 1048576) (hm : arcs.length ≤ 67108864) (hv0 : 0 ≤ v) (hv1 : v < N) : Calls Try.prog 30 #[.pointer (some ⟨g, 0, none⟩), .int .i64 v, .pointer none] W fun e W' => ∃ (t : Nat) (D B : Option Addr) (cd cb : Nat) (ds bs : List Int), e = .returned (.pointer (some ⟨t, 0, none⟩)) ∧ St W (owns []) W' [blk t [.int .i64 v, .slice D N cd, .slice B N cb] 72, row D N cd (ci .i64 ds) 3 1, row B N cb (ci .i64 bs) 3 1] ∧ DS N arcs v ds ∧ BK N arcs ds bs := by
  have HS : St W (owns []) W [] := St.start W _
  have hF := hG.fine
  refine calls_enter ((.pointer (some ⟨g, 0, none⟩)) :: (.int .i64 v) :: (.pointer none) :: undef :: undef :: undef :: undef :: undef :: undef :: undef :: undef :: undef :: undef :: undef :: undef :: undef :: undef :: undef :: undef :: undef :: undef :: undef :: undef :: undef :: undef :: undef :: undef :: undef :: undef :: undef :: undef :: undef :: undef :: undef :: undef :: undef :: undef :: undef :: undef :: undef :: undef :: undef :: undef :: undef :: undef :: undef :: undef :: undef :: undef :: undef :: undef :: undef :: undef :: undef :: undef :: undef :: undef :: undef :: undef :: undef :: undef :: undef :: undef :: undef :: undef :: undef :: undef :: undef :: undef :: undef :: undef :: undef :: undef :: undef :: undef :: undef :: undef :: undef :: undef :: undef :: undef :: undef :: undef :: undef :: undef :: undef :: undef :: undef :: undef :: undef :: undef :: undef :: undef :: undef :: undef :: undef :: undef :: undef :: undef :: undef :: undef :: undef :: undef :: undef :: undef :: undef :: undef :: undef :: undef :: undef :: undef :: undef :: undef :: undef :: undef :: undef :: undef :: undef :: undef :: undef :: undef :: undef :: undef :: undef :: undef :: undef :: undef :: undef :: undef :: undef :: undef :: undef :: undef :: undef :: undef :: undef :: undef :: undef :: undef :: undef :: undef :: undef :: undef :: undef :: undef :: undef :: undef :: undef :: undef :: undef :: undef :: undef :: undef :: undef :: undef :: undef :: undef :: undef :: []) Try.func30 rfl (by kernel_rfl) ?_
  refine wp_seq ?_
  refine wp_region_lit ?_
  refine ql (.pointer none) (by kernel_rfl) (by kernel_rfl) ?_
  refine wpList_nil ?_
  refine x_then ?_
  refine wp_seq ?_
  refine wp_region_lit ?_
  refine ql (.pointer (some ⟨g, 0, none⟩)) (by kernel_rfl) (by kernel_rfl) ?_
  refine qc (f := 17) (args := #[.pointer (some ⟨g, 0, none⟩)]) (by kernel_rfl) (R_call #[.pointer (some ⟨g, 0, none⟩)] Try.func17 (by kernel_rfl) (by kernel_rfl) (by kernel_rfl)) ?_
  refine (nodessome g N arcs _ (hG.below (HS.kept.below owns_nil))).mono ?_
  rintro e W1 ⟨rfl, H_⟩
  refine ⟨_, rfl, ?_⟩
  replace HS : St W (owns []) W1 [] := HS.join (F := []) (G := []) H_
  clear H_
  refine ql (.int .i64 (N : Int)) (by kernel_rfl) (by kernel_rfl) ?_
  refine wpList_nil ?_
  refine x_then ?_
  refine wp_seq_cut (fun a' w' => ∃ (u2 : Nat → Value) (gt_ : Nat) (gd_ : Nat) (gb_ : Nat) , a' = Fr ((.pointer (some ⟨g, 0, none⟩)) :: (.int .i64 v) :: (.pointer none) :: undef :: undef :: undef :: (.pointer none) :: (.int .i64 (N : Int)) :: (.pointer (some ⟨gt_, 0, none⟩)) :: undef :: undef :: undef :: undef :: undef :: undef :: undef :: undef :: (.pointer (some ⟨g, 0, none⟩)) :: (.int .i64 (N : Int)) :: ((u2 19)) :: ((u2 20)) :: ((u2 21)) :: ((u2 22)) :: ((u2 23)) :: ((u2 24)) :: ((u2 25)) :: undef :: undef :: undef :: undef :: undef :: undef :: undef :: undef :: undef :: undef :: undef :: undef :: undef :: undef :: undef :: undef :: undef :: undef :: undef :: undef :: undef :: undef :: undef :: undef :: undef :: undef :: undef :: undef :: undef :: undef :: undef :: undef :: undef :: undef :: undef :: undef :: undef :: undef :: undef :: undef :: undef :: undef :: undef :: undef :: undef :: undef :: undef :: undef :: undef :: undef :: undef :: undef :: undef :: undef :: undef :: undef :: undef :: undef :: undef :: undef :: undef :: undef :: undef :: undef :: undef :: undef :: undef :: undef :: undef :: undef :: undef :: undef :: undef :: undef :: undef :: undef :: undef :: undef :: undef :: undef :: undef :: undef :: undef :: undef :: undef :: undef :: undef :: undef :: undef :: undef :: undef :: undef :: undef :: undef :: undef :: undef :: undef :: undef :: undef :: undef :: undef :: undef :: undef :: undef :: undef :: undef :: undef :: undef :: undef :: undef :: undef :: undef :: undef :: undef :: undef :: undef :: undef :: undef :: undef :: undef :: undef :: undef :: undef :: undef :: undef :: undef :: undef :: undef :: undef :: undef :: undef :: undef :: []) ∧ St W (owns []) w' [blk gt_ [.int .i64 v, .slice (some ⟨gd_, 0, none⟩) N N, .slice (some ⟨gb_, 0, none⟩) N N] 72, row (some ⟨gd_, 0, none⟩) N N (ci .i64 (List.replicate N 0)) 3 1, row (some ⟨gb_, 0, none⟩) N N (ci .i64 (List.replicate N 0)) 3 1]) ?_ ?_
  · skip
    refine t_start HS (fun _ => False) 8 (by kernel_rfl) rfl ?_
    intro W3 H_ HD_
    clear HD_
    replace HS : St W (owns []) W3 [] := H_
    clear H_
    have HV := HS
    have HK := Kpt.refl (fun _ => False) W3
    refine t_q (n := 7) 0 (.int .i64 v) rfl (by kernel_rfl) (by kernel_rfl) (fun _ _ _ h => h) (fun w' hk => (by kernel_rfl)) HK ?_
    refine t_q (n := 6) 1 (.int .i64 (N : Int)) rfl (by kernel_rfl) (by kernel_rfl) (fun _ _ _ h => h) (fun w' hk => (by kernel_rfl)) HK ?_
    refine t_q (n := 5) 3 (.int .i64 (N : Int)) rfl (by kernel_rfl) (by kernel_rfl) (fun _ _ _ h => h) (fun w' hk => (by kernel_rfl)) HK ?_
    refine t_pick2 (n := 4) 2 4 (by kernel_rfl) ?_ ?_
    · skip
      obtain ⟨g4, W5, hrun_, H_, hk_⟩ := ex_make (P := Try.prog) (ty := 28) (ps := "bfs.go:20") (af := #[{ on := 1, ground := Go.Ground.data }, { on := 1, ground := Go.Ground.data }]) (gd := none) (dst := some 21) (t := 28) (x := (Go.Operand.tmp 20)) (y := (Go.Operand.tmp 20)) (k1 := .i64) (k2 := .i64) HS (N) [.int .i64 0] 8 (k_eq (m := (N : Int)) (by kernel_rfl) (by omega)) (k_eq (m := (N : Int)) (by kernel_rfl) (by omega)) Try.underlying28 (by kernel_rfl) (by kernel_rfl) (by kernel_rfl) (by decide) (by omega) (by omega)
      refine t_e2 (n := 4) 2 (.slice (some ⟨g4, 0, none⟩) N N) rfl (by kernel_rfl) hrun_ (HK.tr hk_) ?_
      replace HK := HK.tr hk_
      clear hk_
      clear hrun_
      replace HS : St W (owns []) W5 [row (some ⟨g4, 0, none⟩) N N (ci .i64 (List.replicate (N) 0)) 3 1] := H_.cast_ (by rw [ci_rep]; rfl)
      clear H_
      have rlg4 : (List.replicate (N) (0 : Int)).length = N := List.length_replicate
      obtain ⟨g6, W7, hrun_, H_, hk_⟩ := ex_make (P := Try.prog) (ty := 28) (ps := "bfs.go:20") (af := #[{ on := 3, ground := Go.Ground.data }, { on := 3, ground := Go.Ground.data }]) (gd := none) (dst := some 23) (t := 28) (x := (Go.Operand.tmp 22)) (y := (Go.Operand.tmp 22)) (k1 := .i64) (k2 := .i64) HS (N) [.int .i64 0] 8 (k_eq (m := (N : Int)) (by kernel_rfl) (by omega)) (k_eq (m := (N : Int)) (by kernel_rfl) (by omega)) Try.underlying28 (by kernel_rfl) (by kernel_rfl) (by kernel_rfl) (by decide) (by omega) (by omega)
      refine t_e (n := 3) 4 (.slice (some ⟨g6, 0, none⟩) N N) rfl (by kernel_rfl) (by kernel_rfl) hrun_ (HK.tr hk_) ?_
      replace HK := HK.tr hk_
      clear hk_
      clear hrun_
      replace HS : St W (owns []) W7 [row (some ⟨g6, 0, none⟩) N N (ci .i64 (List.replicate (N) 0)) 3 1, row (some ⟨g4, 0, none⟩) N N (ci .i64 (List.replicate (N) 0)) 3 1] := H_.cast_ (by rw [ci_rep]; rfl)
      clear H_
      have rlg6 : (List.replicate (N) (0 : Int)).length = N := List.length_replicate
      refine t_q (n := 2) 5 (.agg #[.int .i64 v, .slice (some ⟨g4, 0, none⟩) N N, .slice (some ⟨g6, 0, none⟩) N N]) rfl (by kernel_rfl) (by kernel_rfl) (fun _ _ _ h => h) (fun w' hk => (by kernel_rfl)) HK ?_
      obtain ⟨g8, W9, hg_, hw_, H_, hk_⟩ := ex_blk HS [.int .i64 v, .slice (some ⟨g4, 0, none⟩) N N, .slice (some ⟨g6, 0, none⟩) N N] 72
      refine t_e (n := 1) 6 (.pointer (some ⟨g8, 0, none⟩)) rfl (by kernel_rfl) (by kernel_rfl) (by subst hg_; subst hw_; kernel_rfl) (HK.tr hk_) ?_
      replace HK := HK.tr hk_
      clear hk_
      clear hg_ hw_
      replace HS : St W (owns []) W9 [blk g8 [.int .i64 v, .slice (some ⟨g4, 0, none⟩) N N, .slice (some ⟨g6, 0, none⟩) N N] 72, row (some ⟨g6, 0, none⟩) N N (ci .i64 (List.replicate (N) 0)) 3 1, row (some ⟨g4, 0, none⟩) N N (ci .i64 (List.replicate (N) 0)) 3 1] := H_
      clear H_
      refine t_q (n := 0) 7 (.pointer (some ⟨g8, 0, none⟩)) rfl (by kernel_rfl) (by kernel_rfl) (fun _ _ _ h => h) (fun w' hk => (by kernel_rfl)) HK ?_
      refine t_done (by kernel_rfl) ?_
      clear HV HK
      replace HS : St W (owns []) W9 [blk g8 [.int .i64 v, .slice (some ⟨g4, 0, none⟩) N N, .slice (some ⟨g6, 0, none⟩) N N] 72, row (some ⟨g4, 0, none⟩) N N (ci .i64 (List.replicate (N) 0)) 3 1, row (some ⟨g6, 0, none⟩) N N (ci .i64 (List.replicate (N) 0)) 3 1] := HS.perm (perm_ [0, 2, 1] (by kernel_rfl) rfl)
      refine x_then ?_
      exact ⟨(fun k_ : Nat => List.getD ((.pointer (some ⟨g, 0, none⟩)) :: (.int .i64 v) :: (.pointer none) :: undef :: undef :: undef :: (.pointer none) :: (.int .i64 (N : Int)) :: (.pointer (some ⟨g8, 0, none⟩)) :: undef :: undef :: undef :: undef :: undef :: undef :: undef :: undef :: (.pointer (some ⟨g, 0, none⟩)) :: (.int .i64 (N : Int)) :: (.int .i64 v) :: (.int .i64 (N : Int)) :: (.slice (some ⟨g4, 0, none⟩) N N) :: (.int .i64 (N : Int)) :: (.slice (some ⟨g6, 0, none⟩) N N) :: (.agg #[.int .i64 v, .slice (some ⟨g4, 0, none⟩) N N, .slice (some ⟨g6, 0, none⟩) N N]) :: (.pointer (some ⟨g8, 0, none⟩)) :: undef :: undef :: undef :: undef :: undef :: undef :: undef :: undef :: undef :: undef :: undef :: undef :: undef :: undef :: undef :: undef :: undef :: undef :: undef :: undef :: undef :: undef :: undef :: undef :: undef :: undef :: undef :: undef :: undef :: undef :: undef :: undef :: undef :: undef :: undef :: undef :: undef :: undef :: undef :: undef :: undef :: undef :: undef :: undef :: undef :: undef :: undef :: undef :: undef :: undef :: undef :: undef :: undef :: undef :: undef :: undef :: undef :: undef :: undef :: undef :: undef :: undef :: undef :: undef :: undef :: undef :: undef :: undef :: undef :: undef :: undef :: undef :: undef :: undef :: undef :: undef :: undef :: undef :: undef :: undef :: undef :: undef :: undef :: undef :: undef :: undef :: undef :: undef :: undef :: undef :: undef :: undef :: undef :: undef :: undef :: undef :: undef :: undef :: undef :: undef :: undef :: undef :: undef :: undef :: undef :: undef :: undef :: undef :: undef :: undef :: undef :: undef :: undef :: undef :: undef :: undef :: undef :: undef :: undef :: undef :: undef :: undef :: undef :: undef :: undef :: undef :: undef :: undef :: undef :: undef :: undef :: undef :: []) k_ undef), g8, g4, g6, congrArg Fr (by kernel_rfl), HS⟩
    · skip
      obtain ⟨g10, W11, hrun_, H_, hk_⟩ := ex_make (P := Try.prog) (ty := 28) (ps := "bfs.go:20") (af := #[{ on := 3, ground := Go.Ground.data }, { on := 3, ground := Go.Ground.data }]) (gd := none) (dst := some 23) (t := 28) (x := (Go.Operand.tmp 22)) (y := (Go.Operand.tmp 22)) (k1 := .i64) (k2 := .i64) HS (N) [.int .i64 0] 8 (k_eq (m := (N : Int)) (by kernel_rfl) (by omega)) (k_eq (m := (N : Int)) (by kernel_rfl) (by omega)) Try.underlying28 (by kernel_rfl) (by kernel_rfl) (by kernel_rfl) (by decide) (by omega) (by omega)
      refine t_e2 (n := 4) 4 (.slice (some ⟨g10, 0, none⟩) N N) rfl (by kernel_rfl) hrun_ (HK.tr hk_) ?_
      replace HK := HK.tr hk_
      clear hk_
      clear hrun_
      replace HS : St W (owns []) W11 [row (some ⟨g10, 0, none⟩) N N (ci .i64 (List.replicate (N) 0)) 3 1] := H_.cast_ (by rw [ci_rep]; rfl)
      clear H_
      have rlg10 : (List.replicate (N) (0 : Int)).length = N := List.length_replicate
      obtain ⟨g12, W13, hrun_, H_, hk_⟩ := ex_make (P := Try.prog) (ty := 28) (ps := "bfs.go:20") (af := #[{ on := 1, ground := Go.Ground.data }, { on := 1, ground := Go.Ground.data }]) (gd := none) (dst := some 21) (t := 28) (x := (Go.Operand.tmp 20)) (y := (Go.Operand.tmp 20)) (k1 := .i64) (k2 := .i64) HS (N) [.int .i64 0] 8 (k_eq (m := (N : Int)) (by kernel_rfl) (by omega)) (k_eq (m := (N : Int)) (by kernel_rfl) (by omega)) Try.underlying28 (by kernel_rfl) (by kernel_rfl) (by kernel_rfl) (by decide) (by omega) (by omega)
      refine t_e (n := 3) 2 (.slice (some ⟨g12, 0, none⟩) N N) rfl (by kernel_rfl) (by kernel_rfl) hrun_ (HK.tr hk_) ?_
      replace HK := HK.tr hk_
      clear hk_
      clear hrun_
      replace HS : St W (owns []) W13 [row (some ⟨g12, 0, none⟩) N N (ci .i64 (List.replicate (N) 0)) 3 1, row (some ⟨g10, 0, none⟩) N N (ci .i64 (List.replicate (N) 0)) 3 1] := H_.cast_ (by rw [ci_rep]; rfl)
      clear H_
      have rlg12 : (List.replicate (N) (0 : Int)).length = N := List.length_replicate
      refine t_q (n := 2) 5 (.agg #[.int .i64 v, .slice (some ⟨g12, 0, none⟩) N N, .slice (some ⟨g10, 0, none⟩) N N]) rfl (by kernel_rfl) (by kernel_rfl) (fun _ _ _ h => h) (fun w' hk => (by kernel_rfl)) HK ?_
      obtain ⟨g14, W15, hg_, hw_, H_, hk_⟩ := ex_blk HS [.int .i64 v, .slice (some ⟨g12, 0, none⟩) N N, .slice (some ⟨g10, 0, none⟩) N N] 72
      refine t_e (n := 1) 6 (.pointer (some ⟨g14, 0, none⟩)) rfl (by kernel_rfl) (by kernel_rfl) (by subst hg_; subst hw_; kernel_rfl) (HK.tr hk_) ?_
      replace HK := HK.tr hk_
      clear hk_
      clear hg_ hw_
      replace HS : St W (owns []) W15 [blk g14 [.int .i64 v, .slice (some ⟨g12, 0, none⟩) N N, .slice (some ⟨g10, 0, none⟩) N N] 72, row (some ⟨g12, 0, none⟩) N N (ci .i64 (List.replicate (N) 0)) 3 1, row (some ⟨g10, 0, none⟩) N N (ci .i64 (List.replicate (N) 0)) 3 1] := H_
      clear H_
      refine t_q (n := 0) 7 (.pointer (some ⟨g14, 0, none⟩)) rfl (by kernel_rfl) (by kernel_rfl) (fun _ _ _ h => h) (fun w' hk => (by kernel_rfl)) HK ?_
      refine t_done (by kernel_rfl) ?_
      clear HV HK
      refine x_then ?_
      exact ⟨(fun k_ : Nat => List.getD ((.pointer (some ⟨g, 0, none⟩)) :: (.int .i64 v) :: (.pointer none) :: undef :: undef :: undef :: (.pointer none) :: (.int .i64 (N : Int)) :: (.pointer (some ⟨g14, 0, none⟩)) :: undef :: undef :: undef :: undef :: undef :: undef :: undef :: undef :: (.pointer (some ⟨g, 0, none⟩)) :: (.int .i64 (N : Int)) :: (.int .i64 v) :: (.int .i64 (N : Int)) :: (.slice (some ⟨g12, 0, none⟩) N N) :: (.int .i64 (N : Int)) :: (.slice (some ⟨g10, 0, none⟩) N N) :: (.agg #[.int .i64 v, .slice (some ⟨g12, 0, none⟩) N N, .slice (some ⟨g10, 0, none⟩) N N]) :: (.pointer (some ⟨g14, 0, none⟩)) :: undef :: undef :: undef :: undef :: undef :: undef :: undef :: undef :: undef :: undef :: undef :: undef :: undef :: undef :: undef :: undef :: undef :: undef :: undef :: undef :: undef :: undef :: undef :: undef :: undef :: undef :: undef :: undef :: undef :: undef :: undef :: undef :: undef :: undef :: undef :: undef :: undef :: undef :: undef :: undef :: undef :: undef :: undef :: undef :: undef :: undef :: undef :: undef :: undef :: undef :: undef :: undef :: undef :: undef :: undef :: undef :: undef :: undef :: undef :: undef :: undef :: undef :: undef :: undef :: undef :: undef :: undef :: undef :: undef :: undef :: undef :: undef :: undef :: undef :: undef :: undef :: undef :: undef :: undef :: undef :: undef :: undef :: undef :: undef :: undef :: undef :: undef :: undef :: undef :: undef :: undef :: undef :: undef :: undef :: undef :: undef :: undef :: undef :: undef :: undef :: undef :: undef :: undef :: undef :: undef :: undef :: undef :: undef :: undef :: undef :: undef :: undef :: undef :: undef :: undef :: undef :: undef :: undef :: undef :: undef :: undef :: undef :: undef :: undef :: undef :: undef :: undef :: undef :: undef :: undef :: undef :: undef :: []) k_ undef), g14, g12, g10, congrArg Fr (by kernel_rfl), HS⟩
  · clear HS
    rintro a' W16 ⟨u2, gt_, gd_, gb_, rfl, HS⟩
    refine wp_seq ?_
    refine wp_seq ?_
    refine wp_region_lit ?_
    refine ql (.int .i64 (N : Int)) (by kernel_rfl) (by kernel_rfl) ?_
    refine ql (.int .i64 0) (by kernel_rfl) (by kernel_rfl) ?_
    refine wpList_nil ?_
    refine x_then ?_
    refine wp_block ?_
    refine wp_loop_ghost (fun kq a' w' => ∃ (J17 : Nat → Value) (w : Int) (ds0 : List Int) (bs0 : List Int) , a' = Fr ((.pointer (some ⟨g, 0, none⟩)) :: (.int .i64 v) :: (.pointer none) :: undef :: undef :: undef :: (.pointer none) :: (.int .i64 (N : Int)) :: (.pointer (some ⟨gt_, 0, none⟩)) :: ((J17 9)) :: undef :: undef :: undef :: undef :: undef :: undef :: undef :: (.pointer (some ⟨g, 0, none⟩)) :: (.int .i64 (N : Int)) :: ((u2 19)) :: ((u2 20)) :: ((u2 21)) :: ((u2 22)) :: ((u2 23)) :: ((u2 24)) :: ((u2 25)) :: (.int .i64 (N : Int)) :: (.int .i64 w) :: ((J17 28)) :: ((J17 29)) :: ((J17 30)) :: ((J17 31)) :: ((J17 32)) :: ((J17 33)) :: ((J17 34)) :: ((J17 35)) :: ((J17 36)) :: ((J17 37)) :: ((J17 38)) :: ((J17 39)) :: ((J17 40)) :: ((J17 41)) :: ((J17 42)) :: undef :: undef :: undef :: undef :: undef :: undef :: undef :: undef :: undef :: undef :: undef :: undef :: undef :: undef :: undef :: undef :: undef :: undef :: undef :: undef :: undef :: undef :: undef :: undef :: undef :: undef :: undef :: undef :: undef :: undef :: undef :: undef :: undef :: undef :: undef :: undef :: undef :: undef :: undef :: undef :: undef :: undef :: undef :: undef :: undef :: undef :: undef :: undef :: undef :: undef :: undef :: undef :: undef :: undef :: undef :: undef :: undef :: undef :: undef :: undef :: undef :: undef :: undef :: undef :: undef :: undef :: undef :: undef :: undef :: undef :: undef :: undef :: undef :: undef :: undef :: undef :: undef :: undef :: undef :: undef :: undef :: undef :: undef :: undef :: undef :: undef :: undef :: undef :: undef :: undef :: undef :: undef :: undef :: undef :: undef :: undef :: undef :: undef :: undef :: undef :: undef :: undef :: undef :: undef :: undef :: undef :: undef :: undef :: undef :: undef :: undef :: undef :: undef :: undef :: undef :: []) ∧ kq = (N - (w).toNat) ∧ (0 ≤ w) ∧ (w ≤ (N : Int)) ∧ (ds0 = List.replicate (w).toNat (-1) ++ List.replicate (N - (w).toNat) 0) ∧ (bs0 = List.replicate (w).toNat (-1) ++ List.replicate (N - (w).toNat) 0) ∧ ((ds0).length = N) ∧ ((bs0).length = N) ∧ St W (owns []) w' [blk gt_ [.int .i64 v, .slice (some ⟨gd_, 0, none⟩) N N, .slice (some ⟨gb_, 0, none⟩) N N] 72, row (some ⟨gd_, 0, none⟩) N N (ci .i64 ds0) 3 1, row (some ⟨gb_, 0, none⟩) N N (ci .i64 bs0) 3 1]) (N - ((0 : Int)).toNat) ⟨(fun k_ : Nat => List.getD ((.pointer (some ⟨g, 0, none⟩)) :: (.int .i64 v) :: (.pointer none) :: undef :: undef :: undef :: (.pointer none) :: (.int .i64 (N : Int)) :: (.pointer (some ⟨gt_, 0, none⟩)) :: undef :: undef :: undef :: undef :: undef :: undef :: undef :: undef :: (.pointer (some ⟨g, 0, none⟩)) :: (.int .i64 (N : Int)) :: ((u2 19)) :: ((u2 20)) :: ((u2 21)) :: ((u2 22)) :: ((u2 23)) :: ((u2 24)) :: ((u2 25)) :: (.int .i64 (N : Int)) :: (.int .i64 0) :: undef :: undef :: undef :: undef :: undef :: undef :: undef :: undef :: undef :: undef :: undef :: undef :: undef :: undef :: undef :: undef :: undef :: undef :: undef :: undef :: undef :: undef :: undef :: undef :: undef :: undef :: undef :: undef :: undef :: undef :: undef :: undef :: undef :: undef :: undef :: undef :: undef :: undef :: undef :: undef :: undef :: undef :: undef :: undef :: undef :: undef :: undef :: undef :: undef :: undef :: undef :: undef :: undef :: undef :: undef :: undef :: undef :: undef :: undef :: undef :: undef :: undef :: undef :: undef :: undef :: undef :: undef :: undef :: undef :: undef :: undef :: undef :: undef :: undef :: undef :: undef :: undef :: undef :: undef :: undef :: undef :: undef :: undef :: undef :: undef :: undef :: undef :: undef :: undef :: undef :: undef :: undef :: undef :: undef :: undef :: undef :: undef :: undef :: undef :: undef :: undef :: undef :: undef :: undef :: undef :: undef :: undef :: undef :: undef :: undef :: undef :: undef :: undef :: undef :: undef :: undef :: undef :: undef :: undef :: undef :: undef :: undef :: undef :: undef :: undef :: undef :: undef :: undef :: undef :: undef :: []) k_ undef), (0 : Int), List.replicate N 0, List.replicate N 0, congrArg Fr (by kernel_rfl), rfl, by omega, by omega, by simp, by simp, List.length_replicate, List.length_replicate, HS⟩ ?_
    clear HS
    intro kq18 a' W19 hrel
    obtain ⟨J17, w, ds0, bs0, rfl, hk, w0, w1, hd0, hb0, hdl, hbl, HS⟩ := hrel
    refine wp_seq ?_
    refine wp_region_lit ?_
    by_cases hc20 : w < (N : Int)
    · skip
      refine ql (.bool true) (by kernel_rfl) (R_bool (p := w < (N : Int)) (by kernel_rfl) (hc20)) ?_
      refine wpList_nil ?_
      refine x_then ?_
      refine wp_seq ?_
      refine wp_cond_true (by kernel_rfl) ?_
      refine wp_skip ?_
      refine x_then ?_
      refine wp_seq ?_
      refine wp_block ?_
      refine wp_seq ?_
      refine wp_region_lit ?_
      refine ql (.int .i64 w) (by kernel_rfl) (by kernel_rfl) ?_
      refine ql (.int .i64 w) (by kernel_rfl) (by kernel_rfl) ?_
      refine wpList_nil ?_
      refine x_then ?_
      refine t_start HS (fun k_ => (row (some ⟨gd_, 0, none⟩) N N (ci .i64 ds0) 3 1).own k_ ∨ (row (some ⟨gb_, 0, none⟩) N N (ci .i64 bs0) 3 1).own k_) 14 (by kernel_rfl) rfl ?_
      intro W21 H_ HD_
      clear HD_
      replace HS : St W (owns []) W21 [blk gt_ [.int .i64 v, .slice (some ⟨gd_, 0, none⟩) N N, .slice (some ⟨gb_, 0, none⟩) N N] 72, row (some ⟨gd_, 0, none⟩) N N (ci .i64 ds0) 3 1, row (some ⟨gb_, 0, none⟩) N N (ci .i64 bs0) 3 1] := H_
      clear H_
      have HV := HS
      have HK := Kpt.refl (fun k_ => (row (some ⟨gd_, 0, none⟩) N N (ci .i64 ds0) 3 1).own k_ ∨ (row (some ⟨gb_, 0, none⟩) N N (ci .i64 bs0) 3 1).own k_) W21
      refine t_q (n := 13) 0 (.pointer (some ⟨gt_, 0, none⟩)) rfl (by kernel_rfl) (by kernel_rfl) (fun _ _ _ h => h) (fun w' hk => (by kernel_rfl)) HK ?_
      refine t_q (n := 12) 1 (.pointer (some ⟨gt_, 0, none⟩)) rfl (by kernel_rfl) (by kernel_rfl) (fun _ _ _ h => h) (fun w' hk => (by kernel_rfl)) HK ?_
      refine t_q (n := 11) 2 (.pointer (some ⟨gt_, 1, none⟩)) rfl (by kernel_rfl) (by kernel_rfl) (fun _ _ _ h => h) (fun w' hk => (by kernel_rfl)) HK ?_
      refine t_q (n := 10) 3 (.slice (some ⟨gd_, 0, none⟩) N N) rfl (by kernel_rfl) (by kernel_rfl) (fun _ _ _ h => h) (fun w' hk => (R_load (p := ⟨gt_, 1, none⟩) (by kernel_rfl) (by kernel_rfl) (by kernel_rfl) (hk.cellN (fun h_ => h_.elim (HV.sepB (a := 0) (b := 1) (by decide) rfl rfl) (HV.sepB (a := 0) (b := 2) (by decide) rfl rfl)) (HV.cell (i := 0) (j := 1) rfl rfl)))) HK ?_
      refine t_q (n := 9) 4 (.int .i64 w) rfl (by kernel_rfl) (by kernel_rfl) (fun _ _ _ h => h) (fun w' hk => (by kernel_rfl)) HK ?_
      refine t_q (n := 8) 5 (.pointer (some ⟨gt_, 0, none⟩)) rfl (by kernel_rfl) (by kernel_rfl) (fun _ _ _ h => h) (fun w' hk => (by kernel_rfl)) HK ?_
      refine t_q (n := 7) 6 (.pointer (some ⟨gt_, 0, none⟩)) rfl (by kernel_rfl) (by kernel_rfl) (fun _ _ _ h => h) (fun w' hk => (by kernel_rfl)) HK ?_
      refine t_q (n := 6) 7 (.pointer (some ⟨gt_, 2, none⟩)) rfl (by kernel_rfl) (by kernel_rfl) (fun _ _ _ h => h) (fun w' hk => (by kernel_rfl)) HK ?_
      refine t_q (n := 5) 8 (.slice (some ⟨gb_, 0, none⟩) N N) rfl (by kernel_rfl) (by kernel_rfl) (fun _ _ _ h => h) (fun w' hk => (R_load (p := ⟨gt_, 2, none⟩) (by kernel_rfl) (by kernel_rfl) (by kernel_rfl) (hk.cellN (fun h_ => h_.elim (HV.sepB (a := 0) (b := 1) (by decide) rfl rfl) (HV.sepB (a := 0) (b := 2) (by decide) rfl rfl)) (HV.cell (i := 0) (j := 2) rfl rfl)))) HK ?_
      refine t_q (n := 4) 9 (.int .i64 w) rfl (by kernel_rfl) (by kernel_rfl) (fun _ _ _ h => h) (fun w' hk => (by kernel_rfl)) HK ?_
      refine t_q (n := 3) 10 (.pointer (some ⟨gd_, w.toNat, none⟩)) rfl (by kernel_rfl) (by kernel_rfl) (fun _ _ _ h => h) (fun w' hk => (R_index1 (k := .i64) (g := gd_) (n := N) (c := N) (i := w) (by kernel_rfl) (by kernel_rfl) Try.underlying28 (by kernel_rfl) (by omega) (by omega))) HK ?_
      obtain ⟨W22, hrun_, H_, hk_⟩ := ex_kr (P := Try.prog) (ty := 0) (ps := "bfs.go:22") (af := #[{ on := 10, ground := Go.Ground.data }, { on := 0, ground := Go.Ground.phase }, { on := 1, ground := Go.Ground.phase }, { on := 2, ground := Go.Ground.phase }, { on := 3, ground := Go.Ground.phase }, { on := 4, ground := Go.Ground.phase }, { on := 5, ground := (Go.Ground.textOnly Go.Departure.lateStores) }, { on := 6, ground := (Go.Ground.textOnly Go.Departure.lateStoresUnsure) }, { on := 7, ground := (Go.Ground.textOnly Go.Departure.lateStoresUnsure) }, { on := 8, ground := Go.Ground.phase }, { on := 9, ground := (Go.Ground.textOnly Go.Departure.lateStores) }]) (gd := none) (t := 3) (x := (Go.Operand.tmp 40)) (y := (Go.Operand.const (Go.Value.int Go.IntKind.i64 (-1)))) (v := .int .i64 (-1)) HS 1 rfl (w.toNat) [.int .i64 (-1)] (by kernel_rfl) (by kernel_rfl) (by kernel_rfl) (by kernel_rfl) (one_ (by kernel_rfl)) (by rw [ci_len]; first | omega | (simp only [List.length_singleton]; omega))
      replace HK := HK.trans hk_ (fun _ h_ => .inl (.inl (row_own h_)))
      refine t_s (n := 2) 11 rfl (by kernel_rfl) (by kernel_rfl) hrun_ HK ?_
      clear hk_ hrun_
      obtain ⟨xs23, xs23_⟩ : ∃ z_ : List Int, z_ = (ds0).set w.toNat (-1) := ⟨_, rfl⟩
      replace HS : St W (owns []) W22 [blk gt_ [.int .i64 v, .slice (some ⟨gd_, 0, none⟩) N N, .slice (some ⟨gb_, 0, none⟩) N N] 72, row (some ⟨gd_, 0, none⟩) N N (ci .i64 xs23) 3 1, row (some ⟨gb_, 0, none⟩) N N (ci .i64 bs0) 3 1] := H_.cast_ (by rw [xs23_, ← ci_set]; rfl)
      clear H_
      have xs23l : xs23.length = N := by rw [xs23_, List.length_set]; first | done | omega
      refine t_q (n := 1) 12 (.pointer (some ⟨gb_, w.toNat, none⟩)) rfl (by kernel_rfl) (by kernel_rfl) (fun _ _ _ h => h) (fun w' hk => (R_index1 (k := .i64) (g := gb_) (n := N) (c := N) (i := w) (by kernel_rfl) (by kernel_rfl) Try.underlying28 (by kernel_rfl) (by omega) (by omega))) HK ?_
      obtain ⟨W24, hrun_, H_, hk_⟩ := ex_kr (P := Try.prog) (ty := 0) (ps := "bfs.go:22") (af := #[{ on := 12, ground := Go.Ground.data }, { on := 11, ground := Go.Ground.chain }, { on := 0, ground := Go.Ground.phase }, { on := 1, ground := Go.Ground.phase }, { on := 2, ground := Go.Ground.phase }, { on := 3, ground := Go.Ground.phase }, { on := 4, ground := Go.Ground.phase }, { on := 5, ground := Go.Ground.phase }, { on := 6, ground := Go.Ground.phase }, { on := 7, ground := Go.Ground.phase }, { on := 8, ground := Go.Ground.phase }, { on := 9, ground := Go.Ground.phase }, { on := 10, ground := Go.Ground.phase }, { on := 11, ground := Go.Ground.phase }]) (gd := none) (t := 3) (x := (Go.Operand.tmp 41)) (y := (Go.Operand.const (Go.Value.int Go.IntKind.i64 (-1)))) (v := .int .i64 (-1)) HS 2 rfl (w.toNat) [.int .i64 (-1)] (by kernel_rfl) (by kernel_rfl) (by kernel_rfl) (by kernel_rfl) (one_ (by kernel_rfl)) (by rw [ci_len]; first | omega | (simp only [List.length_singleton]; omega))
      replace HK := HK.trans hk_ (fun _ h_ => .inl (.inr (row_own h_)))
      refine t_s (n := 0) 13 rfl (by kernel_rfl) (by kernel_rfl) hrun_ HK ?_
      clear hk_ hrun_
      obtain ⟨xs25, xs25_⟩ : ∃ z_ : List Int, z_ = (bs0).set w.toNat (-1) := ⟨_, rfl⟩
      replace HS : St W (owns []) W24 [blk gt_ [.int .i64 v, .slice (some ⟨gd_, 0, none⟩) N N, .slice (some ⟨gb_, 0, none⟩) N N] 72, row (some ⟨gd_, 0, none⟩) N N (ci .i64 xs23) 3 1, row (some ⟨gb_, 0, none⟩) N N (ci .i64 xs25) 3 1] := H_.cast_ (by rw [xs25_, ← ci_set]; rfl)
      clear H_
      have xs25l : xs25.length = N := by rw [xs25_, List.length_set]; first | done | omega
      refine t_done (by kernel_rfl) ?_
      clear HV HK
      refine x_inb ?_
      refine x_then ?_
      refine wp_region_lit ?_
      refine ql (.int .i64 (w + 1)) (by kernel_rfl) (R_int (by kernel_rfl) (w64 (by omega))) ?_
      refine ql (.int .i64 (w + 1)) (by kernel_rfl) (by kernel_rfl) ?_
      refine wpList_nil ?_
      refine x_then ?_
      exact ⟨N - (w + 1).toNat, by omega, (fun k_ : Nat => List.getD ((.pointer (some ⟨g, 0, none⟩)) :: (.int .i64 v) :: (.pointer none) :: undef :: undef :: undef :: (.pointer none) :: (.int .i64 (N : Int)) :: (.pointer (some ⟨gt_, 0, none⟩)) :: (.int .i64 w) :: undef :: undef :: undef :: undef :: undef :: undef :: undef :: (.pointer (some ⟨g, 0, none⟩)) :: (.int .i64 (N : Int)) :: ((u2 19)) :: ((u2 20)) :: ((u2 21)) :: ((u2 22)) :: ((u2 23)) :: ((u2 24)) :: ((u2 25)) :: (.int .i64 (N : Int)) :: (.int .i64 (w + 1)) :: (.bool true) :: (.int .i64 w) :: (.pointer (some ⟨gt_, 0, none⟩)) :: (.pointer (some ⟨gt_, 0, none⟩)) :: (.pointer (some ⟨gt_, 1, none⟩)) :: (.slice (some ⟨gd_, 0, none⟩) N N) :: (.int .i64 w) :: (.pointer (some ⟨gt_, 0, none⟩)) :: (.pointer (some ⟨gt_, 0, none⟩)) :: (.pointer (some ⟨gt_, 2, none⟩)) :: (.slice (some ⟨gb_, 0, none⟩) N N) :: (.int .i64 w) :: (.pointer (some ⟨gd_, w.toNat, none⟩)) :: (.pointer (some ⟨gb_, w.toNat, none⟩)) :: (.int .i64 (w + 1)) :: undef :: undef :: undef :: undef :: undef :: undef :: undef :: undef :: undef :: undef :: undef :: undef :: undef :: undef :: undef :: undef :: undef :: undef :: undef :: undef :: undef :: undef :: undef :: undef :: undef :: undef :: undef :: undef :: undef :: undef :: undef :: undef :: undef :: undef :: undef :: undef :: undef :: undef :: undef :: undef :: undef :: undef :: undef :: undef :: undef :: undef :: undef :: undef :: undef :: undef :: undef :: undef :: undef :: undef :: undef :: undef :: undef :: undef :: undef :: undef :: undef :: undef :: undef :: undef :: undef :: undef :: undef :: undef :: undef :: undef :: undef :: undef :: undef :: undef :: undef :: undef :: undef :: undef :: undef :: undef :: undef :: undef :: undef :: undef :: undef :: undef :: undef :: undef :: undef :: undef :: undef :: undef :: undef :: undef :: undef :: undef :: undef :: undef :: undef :: undef :: undef :: undef :: undef :: undef :: undef :: undef :: undef :: undef :: undef :: undef :: undef :: undef :: undef :: undef :: undef :: []) k_ undef), w + 1, xs23, xs25, congrArg Fr (by kernel_rfl), rfl, by omega, by omega, fill_step w0 (by omega) hd0 xs23_, fill_step w0 (by omega) hb0 xs25_, by omega, by omega, HS⟩
    · skip
      refine ql (.bool false) (by kernel_rfl) (R_nbool (p := w < (N : Int)) (by kernel_rfl) (hc20)) ?_
      refine wpList_nil ?_
      refine x_then ?_
      refine wp_seq ?_
      refine wp_cond_false (by kernel_rfl) ?_
      refine wp_exit ?_
      refine x_thenE ?_
      refine x_thenE ?_
      refine x_hit ?_
      refine x_then ?_
      refine wp_seq ?_
      refine wp_seq ?_
      have he_ds0 : ds0 = List.replicate N (-1) := by rw [hd0, show w.toNat = N by omega]; simp
      have he_bs0 : bs0 = List.replicate N (-1) := by rw [hb0, show w.toNat = N by omega]; simp
      subst he_ds0
      subst he_bs0
      refine wp_region_lit ?_
      refine ql (.int .i64 v) (by kernel_rfl) (by kernel_rfl) ?_
      refine ql (.bool false) (by kernel_rfl) (R_nbool (p := v < (0 : Int)) (by kernel_rfl) (by omega)) ?_
      refine ql (.bool false) (by kernel_rfl) (by kernel_rfl) ?_
      refine ql (.int .i64 v) (by kernel_rfl) (by kernel_rfl) ?_
      refine ql (.int .i64 (N : Int)) (by kernel_rfl) (by kernel_rfl) ?_
      refine ql (.bool false) (by kernel_rfl) (R_nbool (p := v ≥ (N : Int)) (by kernel_rfl) (by omega)) ?_
      refine ql (.bool false) (by kernel_rfl) (by kernel_rfl) ?_
      refine wpList_nil ?_
      refine x_then ?_
      refine wp_cond_false (by kernel_rfl) ?_
      refine wp_skip ?_
      refine x_then ?_
      refine wp_seq ?_
      refine wp_region_lit ?_
      refine ql (.pointer (some ⟨gt_, 0, none⟩)) (by kernel_rfl) (by kernel_rfl) ?_
      refine ql (.pointer (some ⟨gt_, 0, none⟩)) (by kernel_rfl) (by kernel_rfl) ?_
      refine ql (.pointer (some ⟨gt_, 1, none⟩)) (by kernel_rfl) (by kernel_rfl) ?_
      refine ql (.slice (some ⟨gd_, 0, none⟩) N N) (by kernel_rfl) (R_load (p := ⟨gt_, 1, none⟩) (by kernel_rfl) (by kernel_rfl) (by kernel_rfl) (HS.cell (i := 0) (j := 1) rfl rfl)) ?_
      refine ql (.int .i64 v) (by kernel_rfl) (by kernel_rfl) ?_
      refine ql (.pointer (some ⟨gd_, v.toNat, none⟩)) (by kernel_rfl) (R_index1 (k := .i64) (g := gd_) (n := N) (c := N) (i := v) (by kernel_rfl) (by kernel_rfl) Try.underlying28 (by kernel_rfl) (by omega) (by omega)) ?_
      refine kr (v := .int .i64 0) HS 1 rfl (v.toNat) [.int .i64 0] (by kernel_rfl) (by kernel_rfl) (by kernel_rfl) (by kernel_rfl) (by kernel_rfl) (one_ (by kernel_rfl)) (by rw [ci_len]; first | omega | (simp only [List.length_singleton]; omega)) rfl ?_
      intro W26 H_
      obtain ⟨xs27, xs27_⟩ : ∃ z_ : List Int, z_ = ((List.replicate N (-1))).set v.toNat 0 := ⟨_, rfl⟩
      replace HS : St W (owns []) W26 [blk gt_ [.int .i64 v, .slice (some ⟨gd_, 0, none⟩) N N, .slice (some ⟨gb_, 0, none⟩) N N] 72, row (some ⟨gd_, 0, none⟩) N N (ci .i64 xs27) 3 1, row (some ⟨gb_, 0, none⟩) N N (ci .i64 (List.replicate N (-1))) 3 1] := H_.cast_ (by rw [xs27_, ← ci_set]; rfl)
      clear H_
      have xs27l : xs27.length = N := by rw [xs27_, List.length_set]; first | done | omega
      refine wpList_nil ?_
      refine x_then ?_
      refine wp_seq ?_
      refine wp_region_lit ?_
      refine kb HS [.slice none 0 0, .int .i64 0, .int .i64 0] 74 (fun g => .pointer (some ⟨g, 0, none⟩)) (by kernel_rfl) (by kernel_rfl) ?_
      intro g28 W29 H_
      replace HS : St W (owns []) W29 [blk g28 [.slice none 0 0, .int .i64 0, .int .i64 0] 74, blk gt_ [.int .i64 v, .slice (some ⟨gd_, 0, none⟩) N N, .slice (some ⟨gb_, 0, none⟩) N N] 72, row (some ⟨gd_, 0, none⟩) N N (ci .i64 xs27) 3 1, row (some ⟨gb_, 0, none⟩) N N (ci .i64 (List.replicate N (-1))) 3 1] := H_
      clear H_
      refine wpList_nil ?_
      refine x_then ?_
      refine wp_seq ?_
      replace HS : St W (owns []) W29 [row none 0 0 (ci .i64 ([])) 3 1, blk g28 [.slice none 0 0, .int .i64 0, .int .i64 0] 74, blk gt_ [.int .i64 v, .slice (some ⟨gd_, 0, none⟩) N N, .slice (some ⟨gb_, 0, none⟩) N N] 72, row (some ⟨gd_, 0, none⟩) N N (ci .i64 xs27) 3 1, row (some ⟨gb_, 0, none⟩) N N (ci .i64 (List.replicate N (-1))) 3 1] := (HS.nilRow 3 1).cast_ (by kernel_rfl)
      refine wp_region_lit ?_
      refine ql (.int .i64 v) (by kernel_rfl) (by kernel_rfl) ?_
      refine kl HS 1 [.int .i64 v] 3 1 (by kernel_rfl) (by kernel_rfl) rfl (by decide) ?_
      intro g30 W31 H_
      replace HS : St W (owns []) W31 [row (some ⟨g30, 0, none⟩) 1 1 (ci .i64 ([v])) 3 1, row none 0 0 (ci .i64 ([])) 3 1, blk g28 [.slice none 0 0, .int .i64 0, .int .i64 0] 74, blk gt_ [.int .i64 v, .slice (some ⟨gd_, 0, none⟩) N N, .slice (some ⟨gb_, 0, none⟩) N N] 72, row (some ⟨gd_, 0, none⟩) N N (ci .i64 xs27) 3 1, row (some ⟨gb_, 0, none⟩) N N (ci .i64 (List.replicate N (-1))) 3 1] := H_.cast_ (by kernel_rfl)
      clear H_
      refine qc (f := 51) (args := #[.pointer (some ⟨g28, 0, none⟩), .slice (some ⟨g30, 0, none⟩) 1 1]) (by kernel_rfl) (R_call #[.pointer (some ⟨g28, 0, none⟩), .slice (some ⟨g30, 0, none⟩) 1 1] Try.func51 (by kernel_rfl) (by kernel_rfl) (by kernel_rfl)) ?_
      replace HS : St W (owns []) W31 [blk g28 [.slice none 0 0, .int .i64 0, .int .i64 0] 74, row none 0 0 (ci .i64 ([])) 3 1, row (some ⟨g30, 0, none⟩) 1 1 (ci .i64 ([v])) 3 1, blk gt_ [.int .i64 v, .slice (some ⟨gd_, 0, none⟩) N N, .slice (some ⟨gb_, 0, none⟩) N N] 72, row (some ⟨gd_, 0, none⟩) N N (ci .i64 xs27) 3 1, row (some ⟨gb_, 0, none⟩) N N (ci .i64 (List.replicate N (-1))) 3 1] := HS.perm (perm_ [2, 1, 0, 3, 4, 5] (by kernel_rfl) rfl)
      refine (qpush g28 74 [] _ _ 0 _ 0 0 ([]) ([]) ([v]) _ _ (St.focus (F := [blk g28 [.slice none 0 0, .int .i64 0, .int .i64 0] 74, row none 0 0 (ci .i64 ([])) 3 1, row (some ⟨g30, 0, none⟩) 1 1 (ci .i64 ([v])) 3 1]) HS) RQ.nil (by simp)).mono ?_
      rintro e W33 ⟨Ap32, cp32, fp32, np32, qp32, rfl, H_, hrp32⟩
      refine ⟨_, rfl, ?_⟩
      replace HS : St W (owns []) W33 [blk g28 [.slice Ap32 qp32.length cp32, .int .i64 (fp32 : Int), .int .i64 (np32 : Int)] 74, row Ap32 qp32.length cp32 (ci .i64 qp32) 3 1, blk gt_ [.int .i64 v, .slice (some ⟨gd_, 0, none⟩) N N, .slice (some ⟨gb_, 0, none⟩) N N] 72, row (some ⟨gd_, 0, none⟩) N N (ci .i64 xs27) 3 1, row (some ⟨gb_, 0, none⟩) N N (ci .i64 (List.replicate N (-1))) 3 1] := HS.join (F := [blk g28 [.slice none 0 0, .int .i64 0, .int .i64 0] 74, row none 0 0 (ci .i64 ([])) 3 1, row (some ⟨g30, 0, none⟩) 1 1 (ci .i64 ([v])) 3 1]) (G := [blk g28 [.slice Ap32 qp32.length cp32, .int .i64 (fp32 : Int), .int .i64 (np32 : Int)] 74, row Ap32 qp32.length cp32 (ci .i64 qp32) 3 1]) H_
      clear H_
      refine wpList_nil ?_
      refine x_then ?_
      refine wp_seq ?_
      refine wp_block ?_
      have hst := bq_start hF hv0 hv1 xs27_
      refine wp_loop_ghost (fun kq a' w' => ∃ (J34 : Nat → Value) (Aq : Option Addr) (cq : Nat) (fq : Nat) (nq : Nat) (rs : List Int) (xs : List Int) (ds : List Int) (bs : List Int) (G : List Int) (kc : Nat) , a' = Fr ((.pointer (some ⟨g, 0, none⟩)) :: (.int .i64 v) :: (.pointer none) :: undef :: undef :: undef :: (.pointer none) :: (.int .i64 (N : Int)) :: (.pointer (some ⟨gt_, 0, none⟩)) :: ((J17 9)) :: (.pointer (some ⟨g28, 0, none⟩)) :: ((J34 11)) :: ((J34 12)) :: undef :: ((J34 14)) :: ((J34 15)) :: ((J34 16)) :: (.pointer (some ⟨g, 0, none⟩)) :: (.int .i64 (N : Int)) :: ((u2 19)) :: ((u2 20)) :: ((u2 21)) :: ((u2 22)) :: ((u2 23)) :: ((u2 24)) :: ((u2 25)) :: (.int .i64 (N : Int)) :: (.int .i64 w) :: (.bool false) :: ((J17 29)) :: ((J17 30)) :: ((J17 31)) :: ((J17 32)) :: ((J17 33)) :: ((J17 34)) :: ((J17 35)) :: ((J17 36)) :: ((J17 37)) :: ((J17 38)) :: ((J17 39)) :: ((J17 40)) :: ((J17 41)) :: ((J17 42)) :: (.int .i64 v) :: (.bool false) :: (.bool false) :: (.int .i64 v) :: (.int .i64 (N : Int)) :: (.bool false) :: (.bool false) :: undef :: (.pointer (some ⟨gt_, 0, none⟩)) :: (.pointer (some ⟨gt_, 0, none⟩)) :: (.pointer (some ⟨gt_, 1, none⟩)) :: (.slice (some ⟨gd_, 0, none⟩) N N) :: (.int .i64 v) :: (.pointer (some ⟨gd_, v.toNat, none⟩)) :: (.int .i64 v) :: (.slice (some ⟨g30, 0, none⟩) 1 1) :: (.tuple #[]) :: ((J34 60)) :: ((J34 61)) :: ((J34 62)) :: ((J34 63)) :: ((J34 64)) :: ((J34 65)) :: ((J34 66)) :: ((J34 67)) :: ((J34 68)) :: ((J34 69)) :: ((J34 70)) :: ((J34 71)) :: ((J34 72)) :: ((J34 73)) :: ((J34 74)) :: ((J34 75)) :: ((J34 76)) :: ((J34 77)) :: ((J34 78)) :: ((J34 79)) :: ((J34 80)) :: ((J34 81)) :: ((J34 82)) :: ((J34 83)) :: ((J34 84)) :: ((J34 85)) :: ((J34 86)) :: ((J34 87)) :: ((J34 88)) :: ((J34 89)) :: ((J34 90)) :: ((J34 91)) :: ((J34 92)) :: ((J34 93)) :: ((J34 94)) :: ((J34 95)) :: ((J34 96)) :: ((J34 97)) :: ((J34 98)) :: ((J34 99)) :: ((J34 100)) :: ((J34 101)) :: ((J34 102)) :: ((J34 103)) :: ((J34 104)) :: ((J34 105)) :: ((J34 106)) :: ((J34 107)) :: ((J34 108)) :: ((J34 109)) :: ((J34 110)) :: ((J34 111)) :: ((J34 112)) :: ((J34 113)) :: ((J34 114)) :: ((J34 115)) :: ((J34 116)) :: ((J34 117)) :: ((J34 118)) :: ((J34 119)) :: ((J34 120)) :: ((J34 121)) :: ((J34 122)) :: ((J34 123)) :: ((J34 124)) :: ((J34 125)) :: ((J34 126)) :: ((J34 127)) :: ((J34 128)) :: ((J34 129)) :: ((J34 130)) :: ((J34 131)) :: ((J34 132)) :: ((J34 133)) :: ((J34 134)) :: ((J34 135)) :: ((J34 136)) :: ((J34 137)) :: ((J34 138)) :: ((J34 139)) :: ((J34 140)) :: ((J34 141)) :: ((J34 142)) :: ((J34 143)) :: ((J34 144)) :: ((J34 145)) :: ((J34 146)) :: ((J34 147)) :: ((J34 148)) :: ((J34 149)) :: ((J34 150)) :: ((J34 151)) :: ((J34 152)) :: ((J34 153)) :: ((J34 154)) :: ((J34 155)) :: ((J34 156)) :: undef :: []) ∧ kq = ((xs).length + ng ds) ∧ (BI N arcs v G ds bs) ∧ (QI N arcs G ds xs kc) ∧ (RQ rs fq nq xs) ∧ ((ds).length = N) ∧ ((bs).length = N) ∧ St W (owns []) w' [blk g28 [.slice Aq rs.length cq, .int .i64 (fq : Int), .int .i64 (nq : Int)] 74, row Aq rs.length cq (ci .i64 rs) 3 1, blk gt_ [.int .i64 v, .slice (some ⟨gd_, 0, none⟩) N N, .slice (some ⟨gb_, 0, none⟩) N N] 72, row (some ⟨gd_, 0, none⟩) N N (ci .i64 ds) 3 1, row (some ⟨gb_, 0, none⟩) N N (ci .i64 bs) 3 1]) (([v]).length + ng xs27) ⟨(fun k_ : Nat => List.getD ((.pointer (some ⟨g, 0, none⟩)) :: (.int .i64 v) :: (.pointer none) :: undef :: undef :: undef :: (.pointer none) :: (.int .i64 (N : Int)) :: (.pointer (some ⟨gt_, 0, none⟩)) :: ((J17 9)) :: (.pointer (some ⟨g28, 0, none⟩)) :: undef :: undef :: undef :: undef :: undef :: undef :: (.pointer (some ⟨g, 0, none⟩)) :: (.int .i64 (N : Int)) :: ((u2 19)) :: ((u2 20)) :: ((u2 21)) :: ((u2 22)) :: ((u2 23)) :: ((u2 24)) :: ((u2 25)) :: (.int .i64 (N : Int)) :: (.int .i64 w) :: (.bool false) :: ((J17 29)) :: ((J17 30)) :: ((J17 31)) :: ((J17 32)) :: ((J17 33)) :: ((J17 34)) :: ((J17 35)) :: ((J17 36)) :: ((J17 37)) :: ((J17 38)) :: ((J17 39)) :: ((J17 40)) :: ((J17 41)) :: ((J17 42)) :: (.int .i64 v) :: (.bool false) :: (.bool false) :: (.int .i64 v) :: (.int .i64 (N : Int)) :: (.bool false) :: (.bool false) :: undef :: (.pointer (some ⟨gt_, 0, none⟩)) :: (.pointer (some ⟨gt_, 0, none⟩)) :: (.pointer (some ⟨gt_, 1, none⟩)) :: (.slice (some ⟨gd_, 0, none⟩) N N) :: (.int .i64 v) :: (.pointer (some ⟨gd_, v.toNat, none⟩)) :: (.int .i64 v) :: (.slice (some ⟨g30, 0, none⟩) 1 1) :: (.tuple #[]) :: undef :: undef :: undef :: undef :: undef :: undef :: undef :: undef :: undef :: undef :: undef :: undef :: undef :: undef :: undef :: undef :: undef :: undef :: undef :: undef :: undef :: undef :: undef :: undef :: undef :: undef :: undef :: undef :: undef :: undef :: undef :: undef :: undef :: undef :: undef :: undef :: undef :: undef :: undef :: undef :: undef :: undef :: undef :: undef :: undef :: undef :: undef :: undef :: undef :: undef :: undef :: undef :: undef :: undef :: undef :: undef :: undef :: undef :: undef :: undef :: undef :: undef :: undef :: undef :: undef :: undef :: undef :: undef :: undef :: undef :: undef :: undef :: undef :: undef :: undef :: undef :: undef :: undef :: undef :: undef :: undef :: undef :: undef :: undef :: undef :: undef :: undef :: undef :: undef :: undef :: undef :: undef :: undef :: undef :: undef :: undef :: undef :: undef :: []) k_ undef), Ap32, cp32, fp32, np32, qp32, [v], xs27, (List.replicate N (-1)), [], 0, congrArg Fr (by kernel_rfl), rfl, hst.1, hst.2, hrp32, by omega, by omega, HS⟩ ?_
      clear HS
      intro kq35 a' W36 hrel
      obtain ⟨J34, Aq, cq, fq, nq, rs, xs, ds, bs, G, kc, rfl, hk, hB, hQ, hr, hdl, hbl, HS⟩ := hrel
      have hxl0 := hr.len
      refine wp_seq ?_
      refine wp_seq ?_
      refine wp_region_lit ?_
      refine qc (f := 52) (args := #[.pointer (some ⟨g28, 0, none⟩)]) (by kernel_rfl) (R_call #[.pointer (some ⟨g28, 0, none⟩)] Try.func52 (by kernel_rfl) (by kernel_rfl) (by kernel_rfl)) ?_
      refine (qlen g28 nq _ (HS.cell (i := 0) (j := 2) rfl rfl)).mono ?_
      rintro e W37 ⟨rfl, H_⟩
      refine ⟨_, rfl, ?_⟩
      replace HS : St W (owns []) W37 [blk g28 [.slice Aq rs.length cq, .int .i64 (fq : Int), .int .i64 (nq : Int)] 74, row Aq rs.length cq (ci .i64 rs) 3 1, blk gt_ [.int .i64 v, .slice (some ⟨gd_, 0, none⟩) N N, .slice (some ⟨gb_, 0, none⟩) N N] 72, row (some ⟨gd_, 0, none⟩) N N (ci .i64 ds) 3 1, row (some ⟨gb_, 0, none⟩) N N (ci .i64 bs) 3 1] := HS.join (F := []) (G := []) H_
      clear H_
      by_cases hc38 : (nq : Int) > (0 : Int)
      · skip
        refine ql (.bool true) (by kernel_rfl) (R_bool (p := (nq : Int) > (0 : Int)) (by kernel_rfl) (hc38)) ?_
        refine wpList_nil ?_
        refine x_then ?_
        refine wp_cond_true (by kernel_rfl) ?_
        refine wp_skip ?_
        refine x_then ?_
        refine wp_block ?_
        refine wp_seq ?_
        refine wp_region_lit ?_
        refine qc (f := 53) (args := #[.pointer (some ⟨g28, 0, none⟩)]) (by kernel_rfl) (R_call #[.pointer (some ⟨g28, 0, none⟩)] Try.func53 (by kernel_rfl) (by kernel_rfl) (by kernel_rfl)) ?_
        have hxl := hr.len
        have hj := qj_start hQ (by omega)
        have hur := hj.ur
        refine (qpop_some g28 74 [] _ _ _ _ rs xs _ _ (St.focus (F := [blk g28 [.slice Aq rs.length cq, .int .i64 (fq : Int), .int .i64 (nq : Int)] 74, row Aq rs.length cq (ci .i64 rs) 3 1]) HS) hr (by omega)).mono ?_
        rintro e W39 ⟨Ab, cb, fb, qb, rfl, H_, hrb⟩
        refine ⟨_, rfl, ?_⟩
        replace HS : St W (owns []) W39 [blk g28 [.slice Ab qb.length cb, .int .i64 (fb : Int), .int .i64 ((nq - 1 : Nat) : Int)] 74, row Ab qb.length cb (ci .i64 qb) 3 1, blk gt_ [.int .i64 v, .slice (some ⟨gd_, 0, none⟩) N N, .slice (some ⟨gb_, 0, none⟩) N N] 72, row (some ⟨gd_, 0, none⟩) N N (ci .i64 ds) 3 1, row (some ⟨gb_, 0, none⟩) N N (ci .i64 bs) 3 1] := HS.join (F := [blk g28 [.slice Aq rs.length cq, .int .i64 (fq : Int), .int .i64 (nq : Int)] 74, row Aq rs.length cq (ci .i64 rs) 3 1]) (G := [blk g28 [.slice Ab qb.length cb, .int .i64 (fb : Int), .int .i64 ((nq - 1 : Nat) : Int)] 74, row Ab qb.length cb (ci .i64 qb) 3 1]) H_
        clear H_
        refine ql (.tuple #[.int .i64 (rdI xs 0), .bool true]) (by kernel_rfl) (by kernel_rfl) ?_
        refine ql (.int .i64 (rdI xs 0)) (by kernel_rfl) (by kernel_rfl) ?_
        refine ql (.bool true) (by kernel_rfl) (by kernel_rfl) ?_
        refine ql (.int .i64 (rdI xs 0)) (by kernel_rfl) (by kernel_rfl) ?_
        refine ql (.bool true) (by kernel_rfl) (by kernel_rfl) ?_
        refine wpList_nil ?_
        refine x_then ?_
        refine wp_seq ?_
        refine wp_region_lit ?_
        refine ql (.pointer none) (by kernel_rfl) (by kernel_rfl) ?_
        refine qc (f := 54) (args := #[.pointer none, .int .i64 6, .int .i64 1]) (by kernel_rfl) (R_call #[.pointer none, .int .i64 6, .int .i64 1] Try.func54 (by kernel_rfl) (by kernel_rfl) (by kernel_rfl)) ?_
        refine (cadd_nil 6 1 _).mono ?_
        rintro e W40 ⟨rfl, H_⟩
        refine ⟨_, rfl, ?_⟩
        replace HS : St W (owns []) W40 [blk g28 [.slice Ab qb.length cb, .int .i64 (fb : Int), .int .i64 ((nq - 1 : Nat) : Int)] 74, row Ab qb.length cb (ci .i64 qb) 3 1, blk gt_ [.int .i64 v, .slice (some ⟨gd_, 0, none⟩) N N, .slice (some ⟨gb_, 0, none⟩) N N] 72, row (some ⟨gd_, 0, none⟩) N N (ci .i64 ds) 3 1, row (some ⟨gb_, 0, none⟩) N N (ci .i64 bs) 3 1] := HS.join (F := []) (G := []) H_
        clear H_
        refine wpList_nil ?_
        refine x_then ?_
        refine wp_seq ?_
        refine wp_region_lit ?_
        refine ql (.pointer (some ⟨g, 0, none⟩)) (by kernel_rfl) (by kernel_rfl) ?_
        refine ql (.int .i64 (rdI xs 0)) (by kernel_rfl) (by kernel_rfl) ?_
        refine qc (f := 19) (args := #[.pointer (some ⟨g, 0, none⟩), .int .i64 (rdI xs 0)]) (by kernel_rfl) (R_call #[.pointer (some ⟨g, 0, none⟩), .int .i64 (rdI xs 0)] Try.func19 (by kernel_rfl) (by kernel_rfl) (by kernel_rfl)) ?_
        refine (out_yes g N arcs _ (hG.below (HS.kept.below owns_nil)) (rdI xs 0) (by omega) (by omega)).mono ?_
        rintro e W43 ⟨A41, c42, rfl, H_⟩
        refine ⟨_, rfl, ?_⟩
        replace HS : St W (owns []) W43 [row A41 ((idxs (keys false arcs) (rdI xs 0)).length) c42 (ci .i64 (idxs (keys false arcs) (rdI xs 0))) 3 1, blk g28 [.slice Ab qb.length cb, .int .i64 (fb : Int), .int .i64 ((nq - 1 : Nat) : Int)] 74, row Ab qb.length cb (ci .i64 qb) 3 1, blk gt_ [.int .i64 v, .slice (some ⟨gd_, 0, none⟩) N N, .slice (some ⟨gb_, 0, none⟩) N N] 72, row (some ⟨gd_, 0, none⟩) N N (ci .i64 ds) 3 1, row (some ⟨gb_, 0, none⟩) N N (ci .i64 bs) 3 1] := HS.join (F := []) (G := [row A41 ((idxs (keys false arcs) (rdI xs 0)).length) c42 (ci .i64 (idxs (keys false arcs) (rdI xs 0))) 3 1]) H_
        clear H_
        refine ql (.int .i64 ((idxs (keys false arcs) (rdI xs 0)).length : Int)) (by kernel_rfl) (by kernel_rfl) ?_
        refine ql (.int .i64 0) (by kernel_rfl) (by kernel_rfl) ?_
        refine wpList_nil ?_
        refine x_then ?_
        refine wp_block ?_
        have hiu := idxs_le false arcs (rdI xs 0)
        refine wp_loop_ghost (fun kq a' w' => ∃ (J44 : Nat → Value) (q : Int) (A2 : Option Addr) (c2 : Nat) (f2 : Nat) (n2 : Nat) (q2 : List Int) (xs2 : List Int) (ds2 : List Int) (bs2 : List Int) (G2 : List Int) (k2 : Nat) , a' = Fr ((.pointer (some ⟨g, 0, none⟩)) :: (.int .i64 v) :: (.pointer none) :: undef :: undef :: undef :: (.pointer none) :: (.int .i64 (N : Int)) :: (.pointer (some ⟨gt_, 0, none⟩)) :: ((J17 9)) :: (.pointer (some ⟨g28, 0, none⟩)) :: (.int .i64 (rdI xs 0)) :: (.bool true) :: undef :: ((J44 14)) :: ((J44 15)) :: ((J44 16)) :: (.pointer (some ⟨g, 0, none⟩)) :: (.int .i64 (N : Int)) :: ((u2 19)) :: ((u2 20)) :: ((u2 21)) :: ((u2 22)) :: ((u2 23)) :: ((u2 24)) :: ((u2 25)) :: (.int .i64 (N : Int)) :: (.int .i64 w) :: (.bool false) :: ((J17 29)) :: ((J17 30)) :: ((J17 31)) :: ((J17 32)) :: ((J17 33)) :: ((J17 34)) :: ((J17 35)) :: ((J17 36)) :: ((J17 37)) :: ((J17 38)) :: ((J17 39)) :: ((J17 40)) :: ((J17 41)) :: ((J17 42)) :: (.int .i64 v) :: (.bool false) :: (.bool false) :: (.int .i64 v) :: (.int .i64 (N : Int)) :: (.bool false) :: (.bool false) :: undef :: (.pointer (some ⟨gt_, 0, none⟩)) :: (.pointer (some ⟨gt_, 0, none⟩)) :: (.pointer (some ⟨gt_, 1, none⟩)) :: (.slice (some ⟨gd_, 0, none⟩) N N) :: (.int .i64 v) :: (.pointer (some ⟨gd_, v.toNat, none⟩)) :: (.int .i64 v) :: (.slice (some ⟨g30, 0, none⟩) 1 1) :: (.tuple #[]) :: (.int .i64 (nq : Int)) :: (.bool true) :: (.tuple #[.int .i64 (rdI xs 0), .bool true]) :: (.tuple #[.int .i64 (rdI xs 0), .bool true]) :: (.int .i64 (rdI xs 0)) :: (.bool true) :: (.pointer none) :: (.tuple #[]) :: (.pointer (some ⟨g, 0, none⟩)) :: (.int .i64 (rdI xs 0)) :: (.slice A41 ((idxs (keys false arcs) (rdI xs 0)).length) c42) :: (.int .i64 ((idxs (keys false arcs) (rdI xs 0)).length : Int)) :: (.int .i64 q) :: ((J44 73)) :: ((J44 74)) :: ((J44 75)) :: ((J44 76)) :: ((J44 77)) :: ((J44 78)) :: ((J44 79)) :: ((J44 80)) :: ((J44 81)) :: ((J44 82)) :: ((J44 83)) :: ((J44 84)) :: ((J44 85)) :: ((J44 86)) :: ((J44 87)) :: ((J44 88)) :: ((J44 89)) :: ((J44 90)) :: ((J44 91)) :: ((J44 92)) :: ((J44 93)) :: ((J44 94)) :: ((J44 95)) :: ((J44 96)) :: ((J44 97)) :: ((J44 98)) :: ((J44 99)) :: ((J44 100)) :: ((J44 101)) :: ((J44 102)) :: ((J44 103)) :: ((J44 104)) :: ((J44 105)) :: ((J44 106)) :: ((J44 107)) :: ((J44 108)) :: ((J44 109)) :: ((J44 110)) :: ((J44 111)) :: ((J44 112)) :: ((J44 113)) :: ((J44 114)) :: ((J44 115)) :: ((J44 116)) :: ((J44 117)) :: ((J44 118)) :: ((J44 119)) :: ((J44 120)) :: ((J44 121)) :: ((J44 122)) :: ((J44 123)) :: ((J44 124)) :: ((J44 125)) :: ((J44 126)) :: ((J44 127)) :: ((J44 128)) :: ((J44 129)) :: ((J44 130)) :: ((J44 131)) :: ((J44 132)) :: ((J44 133)) :: ((J44 134)) :: ((J44 135)) :: ((J44 136)) :: ((J44 137)) :: ((J44 138)) :: ((J44 139)) :: ((J44 140)) :: ((J44 141)) :: ((J44 142)) :: ((J44 143)) :: ((J44 144)) :: ((J44 145)) :: ((J44 146)) :: ((J44 147)) :: ((J44 148)) :: ((J44 149)) :: ((J44 150)) :: ((J44 151)) :: ((J44 152)) :: ((J44 153)) :: ((J44 154)) :: ((J44 155)) :: ((J44 156)) :: undef :: []) ∧ kq = ((idxs (keys false arcs) (rdI xs 0)).length - (q).toNat) ∧ (0 ≤ q) ∧ (q ≤ (idxs (keys false arcs) (rdI xs 0)).length) ∧ (BI N arcs v G2 ds2 bs2) ∧ (QJ N arcs (rdI xs 0) (q).toNat G2 ds2 xs2 k2) ∧ (RQ q2 f2 n2 xs2) ∧ ((xs2).length + ng ds2 = xs.length - 1 + ng ds) ∧ ((ds2).length = N) ∧ ((bs2).length = N) ∧ St W (owns []) w' [row A41 ((idxs (keys false arcs) (rdI xs 0)).length) c42 (ci .i64 (idxs (keys false arcs) (rdI xs 0))) 3 1, blk g28 [.slice A2 q2.length c2, .int .i64 (f2 : Int), .int .i64 (n2 : Int)] 74, row A2 q2.length c2 (ci .i64 q2) 3 1, blk gt_ [.int .i64 v, .slice (some ⟨gd_, 0, none⟩) N N, .slice (some ⟨gb_, 0, none⟩) N N] 72, row (some ⟨gd_, 0, none⟩) N N (ci .i64 ds2) 3 1, row (some ⟨gb_, 0, none⟩) N N (ci .i64 bs2) 3 1]) ((idxs (keys false arcs) (rdI xs 0)).length - ((0 : Int)).toNat) ⟨(fun k_ : Nat => List.getD ((.pointer (some ⟨g, 0, none⟩)) :: (.int .i64 v) :: (.pointer none) :: undef :: undef :: undef :: (.pointer none) :: (.int .i64 (N : Int)) :: (.pointer (some ⟨gt_, 0, none⟩)) :: ((J17 9)) :: (.pointer (some ⟨g28, 0, none⟩)) :: (.int .i64 (rdI xs 0)) :: (.bool true) :: undef :: ((J34 14)) :: ((J34 15)) :: ((J34 16)) :: (.pointer (some ⟨g, 0, none⟩)) :: (.int .i64 (N : Int)) :: ((u2 19)) :: ((u2 20)) :: ((u2 21)) :: ((u2 22)) :: ((u2 23)) :: ((u2 24)) :: ((u2 25)) :: (.int .i64 (N : Int)) :: (.int .i64 w) :: (.bool false) :: ((J17 29)) :: ((J17 30)) :: ((J17 31)) :: ((J17 32)) :: ((J17 33)) :: ((J17 34)) :: ((J17 35)) :: ((J17 36)) :: ((J17 37)) :: ((J17 38)) :: ((J17 39)) :: ((J17 40)) :: ((J17 41)) :: ((J17 42)) :: (.int .i64 v) :: (.bool false) :: (.bool false) :: (.int .i64 v) :: (.int .i64 (N : Int)) :: (.bool false) :: (.bool false) :: undef :: (.pointer (some ⟨gt_, 0, none⟩)) :: (.pointer (some ⟨gt_, 0, none⟩)) :: (.pointer (some ⟨gt_, 1, none⟩)) :: (.slice (some ⟨gd_, 0, none⟩) N N) :: (.int .i64 v) :: (.pointer (some ⟨gd_, v.toNat, none⟩)) :: (.int .i64 v) :: (.slice (some ⟨g30, 0, none⟩) 1 1) :: (.tuple #[]) :: (.int .i64 (nq : Int)) :: (.bool true) :: (.tuple #[.int .i64 (rdI xs 0), .bool true]) :: (.tuple #[.int .i64 (rdI xs 0), .bool true]) :: (.int .i64 (rdI xs 0)) :: (.bool true) :: (.pointer none) :: (.tuple #[]) :: (.pointer (some ⟨g, 0, none⟩)) :: (.int .i64 (rdI xs 0)) :: (.slice A41 ((idxs (keys false arcs) (rdI xs 0)).length) c42) :: (.int .i64 ((idxs (keys false arcs) (rdI xs 0)).length : Int)) :: (.int .i64 0) :: ((J34 73)) :: ((J34 74)) :: ((J34 75)) :: ((J34 76)) :: ((J34 77)) :: ((J34 78)) :: ((J34 79)) :: ((J34 80)) :: ((J34 81)) :: ((J34 82)) :: ((J34 83)) :: ((J34 84)) :: ((J34 85)) :: ((J34 86)) :: ((J34 87)) :: ((J34 88)) :: ((J34 89)) :: ((J34 90)) :: ((J34 91)) :: ((J34 92)) :: ((J34 93)) :: ((J34 94)) :: ((J34 95)) :: ((J34 96)) :: ((J34 97)) :: ((J34 98)) :: ((J34 99)) :: ((J34 100)) :: ((J34 101)) :: ((J34 102)) :: ((J34 103)) :: ((J34 104)) :: ((J34 105)) :: ((J34 106)) :: ((J34 107)) :: ((J34 108)) :: ((J34 109)) :: ((J34 110)) :: ((J34 111)) :: ((J34 112)) :: ((J34 113)) :: ((J34 114)) :: ((J34 115)) :: ((J34 116)) :: ((J34 117)) :: ((J34 118)) :: ((J34 119)) :: ((J34 120)) :: ((J34 121)) :: ((J34 122)) :: ((J34 123)) :: ((J34 124)) :: ((J34 125)) :: ((J34 126)) :: ((J34 127)) :: ((J34 128)) :: ((J34 129)) :: ((J34 130)) :: ((J34 131)) :: ((J34 132)) :: ((J34 133)) :: ((J34 134)) :: ((J34 135)) :: ((J34 136)) :: ((J34 137)) :: ((J34 138)) :: ((J34 139)) :: ((J34 140)) :: ((J34 141)) :: ((J34 142)) :: ((J34 143)) :: ((J34 144)) :: ((J34 145)) :: ((J34 146)) :: ((J34 147)) :: ((J34 148)) :: ((J34 149)) :: ((J34 150)) :: ((J34 151)) :: ((J34 152)) :: ((J34 153)) :: ((J34 154)) :: ((J34 155)) :: ((J34 156)) :: undef :: []) k_ undef), (0 : Int), Ab, cb, fb, (nq - 1), qb, xs.tail, ds, bs, G, (kc + 1), congrArg Fr (by kernel_rfl), rfl, by omega, by omega, hB, hj, hrb, by rw [List.length_tail], hdl, hbl, HS⟩ ?_
        clear HS
        intro kq45 a' W46 hrel
        obtain ⟨J44, q, A2, c2, f2, n2, q2, xs2, ds2, bs2, G2, k2, rfl, hk, q0, q1, hB2, hJ, hr2, hm2, hdl2, hbl2, HS⟩ := hrel
        refine wp_seq ?_
        refine wp_region_lit ?_
        by_cases hc47 : q < ((idxs (keys false arcs) (rdI xs 0)).length : Int)
        · skip
          refine ql (.bool true) (by kernel_rfl) (R_bool (p := q < ((idxs (keys false arcs) (rdI xs 0)).length : Int)) (by kernel_rfl) (hc47)) ?_
          refine wpList_nil ?_
          refine x_then ?_
          refine wp_seq ?_
          refine wp_cond_true (by kernel_rfl) ?_
          refine wp_skip ?_
          refine x_then ?_
          refine wp_seq ?_
          refine wp_block ?_
          refine wp_seq ?_
          have hat := qj_at q0 (by omega)
          have hfi := gx_fine hF hat.1 hat.2.1
          have hju := hJ.ur
          have hlv := lvl hB2.ld hB2.ze (fun w a b hp => by obtain ⟨p1, p2, p3, p4⟩ := hB2.bk w a b hp; exact ⟨_, p1, p2, p3, p4⟩) hF hju.1 hju.2.1
          refine wp_region_lit ?_
          obtain ⟨g48, rfl⟩ := St.rsome HS (i := 0) rfl (by omega)
          refine ql (.pointer (some ⟨g48, q.toNat, none⟩)) (by kernel_rfl) (R_index1 (k := .i64) (g := g48) (n := ((idxs (keys false arcs) (rdI xs 0)).length)) (c := c42) (i := q) (by kernel_rfl) (by kernel_rfl) Try.underlying28 (by kernel_rfl) (by omega) (by omega)) ?_
          refine ql (.int .i64 (rdI (idxs (keys false arcs) (rdI xs 0)) q)) (by kernel_rfl) (R_load (p := ⟨g48, q.toNat, none⟩) (by kernel_rfl) (by kernel_rfl) (by kernel_rfl) (HS.rcell (i := 0) rfl (ci_rd (by omega) (by omega)))) ?_
          refine ql (.int .i64 (rdI (idxs (keys false arcs) (rdI xs 0)) q)) (by kernel_rfl) (by kernel_rfl) ?_
          refine wpList_nil ?_
          refine x_then ?_
          refine wp_seq ?_
          refine wp_region_lit ?_
          refine ql (.pointer none) (by kernel_rfl) (by kernel_rfl) ?_
          refine qc (f := 54) (args := #[.pointer none, .int .i64 6, .int .i64 1]) (by kernel_rfl) (R_call #[.pointer none, .int .i64 6, .int .i64 1] Try.func54 (by kernel_rfl) (by kernel_rfl) (by kernel_rfl)) ?_
          refine (cadd_nil 6 1 _).mono ?_
          rintro e W49 ⟨rfl, H_⟩
          refine ⟨_, rfl, ?_⟩
          replace HS : St W (owns []) W49 [row (some ⟨g48, 0, none⟩) ((idxs (keys false arcs) (rdI xs 0)).length) c42 (ci .i64 (idxs (keys false arcs) (rdI xs 0))) 3 1, blk g28 [.slice A2 q2.length c2, .int .i64 (f2 : Int), .int .i64 (n2 : Int)] 74, row A2 q2.length c2 (ci .i64 q2) 3 1, blk gt_ [.int .i64 v, .slice (some ⟨gd_, 0, none⟩) N N, .slice (some ⟨gb_, 0, none⟩) N N] 72, row (some ⟨gd_, 0, none⟩) N N (ci .i64 ds2) 3 1, row (some ⟨gb_, 0, none⟩) N N (ci .i64 bs2) 3 1] := HS.join (F := []) (G := []) H_
          clear H_
          refine wpList_nil ?_
          refine x_then ?_
          refine wp_seq ?_
          refine wp_region_lit ?_
          refine ql (.pointer (some ⟨g, 0, none⟩)) (by kernel_rfl) (by kernel_rfl) ?_
          refine ql (.int .i64 (rdI (idxs (keys false arcs) (rdI xs 0)) q)) (by kernel_rfl) (by kernel_rfl) ?_
          refine qc (f := 22) (args := #[.pointer (some ⟨g, 0, none⟩), .int .i64 (rdI (idxs (keys false arcs) (rdI xs 0)) q)]) (by kernel_rfl) (R_call #[.pointer (some ⟨g, 0, none⟩), .int .i64 (rdI (idxs (keys false arcs) (rdI xs 0)) q)] Try.func22 (by kernel_rfl) (by kernel_rfl) (by kernel_rfl)) ?_
          refine (arc_yes g N arcs _ (hG.below (HS.kept.below owns_nil)) (rdI (idxs (keys false arcs) (rdI xs 0)) q) (by omega) (by omega)).mono ?_
          rintro e W50 ⟨rfl, H_⟩
          refine ⟨_, rfl, ?_⟩
          replace HS : St W (owns []) W50 [row (some ⟨g48, 0, none⟩) ((idxs (keys false arcs) (rdI xs 0)).length) c42 (ci .i64 (idxs (keys false arcs) (rdI xs 0))) 3 1, blk g28 [.slice A2 q2.length c2, .int .i64 (f2 : Int), .int .i64 (n2 : Int)] 74, row A2 q2.length c2 (ci .i64 q2) 3 1, blk gt_ [.int .i64 v, .slice (some ⟨gd_, 0, none⟩) N N, .slice (some ⟨gb_, 0, none⟩) N N] 72, row (some ⟨gd_, 0, none⟩) N N (ci .i64 ds2) 3 1, row (some ⟨gb_, 0, none⟩) N N (ci .i64 bs2) 3 1] := HS.join (F := []) (G := []) H_
          clear H_
          refine ql (.tuple #[.agg #[.int .i64 ((gx arcs (rdI (idxs (keys false arcs) (rdI xs 0)) q)).1), .int .i64 ((gx arcs (rdI (idxs (keys false arcs) (rdI xs 0)) q)).2)], .bool true]) (by kernel_rfl) (by kernel_rfl) ?_
          refine ql (.agg #[.int .i64 ((gx arcs (rdI (idxs (keys false arcs) (rdI xs 0)) q)).1), .int .i64 ((gx arcs (rdI (idxs (keys false arcs) (rdI xs 0)) q)).2)]) (by kernel_rfl) (by kernel_rfl) ?_
          refine ql (.bool true) (by kernel_rfl) (by kernel_rfl) ?_
          refine kb HS [.int .i64 0, .int .i64 0] 35 (fun g => .pointer (some ⟨g, 0, none⟩)) (by kernel_rfl) (by kernel_rfl) ?_
          intro g51 W52 H_
          replace HS : St W (owns []) W52 [blk g51 [.int .i64 0, .int .i64 0] 35, row (some ⟨g48, 0, none⟩) ((idxs (keys false arcs) (rdI xs 0)).length) c42 (ci .i64 (idxs (keys false arcs) (rdI xs 0))) 3 1, blk g28 [.slice A2 q2.length c2, .int .i64 (f2 : Int), .int .i64 (n2 : Int)] 74, row A2 q2.length c2 (ci .i64 q2) 3 1, blk gt_ [.int .i64 v, .slice (some ⟨gd_, 0, none⟩) N N, .slice (some ⟨gb_, 0, none⟩) N N] 72, row (some ⟨gd_, 0, none⟩) N N (ci .i64 ds2) 3 1, row (some ⟨gb_, 0, none⟩) N N (ci .i64 bs2) 3 1] := H_
          clear H_
          refine ks (v := .agg #[.int .i64 ((gx arcs (rdI (idxs (keys false arcs) (rdI xs 0)) q)).1), .int .i64 ((gx arcs (rdI (idxs (keys false arcs) (rdI xs 0)) q)).2)]) HS 0 rfl (0) [.int .i64 ((gx arcs (rdI (idxs (keys false arcs) (rdI xs 0)) q)).1), .int .i64 ((gx arcs (rdI (idxs (keys false arcs) (rdI xs 0)) q)).2)] (by kernel_rfl) (by kernel_rfl) (by kernel_rfl) (by kernel_rfl) (by kernel_rfl) (one_ (by kernel_rfl)) (Nat.le_of_ble_eq_true rfl) rfl ?_
          intro W53 H_
          replace HS : St W (owns []) W53 [blk g51 [.int .i64 ((gx arcs (rdI (idxs (keys false arcs) (rdI xs 0)) q)).1), .int .i64 ((gx arcs (rdI (idxs (keys false arcs) (rdI xs 0)) q)).2)] 35, row (some ⟨g48, 0, none⟩) ((idxs (keys false arcs) (rdI xs 0)).length) c42 (ci .i64 (idxs (keys false arcs) (rdI xs 0))) 3 1, blk g28 [.slice A2 q2.length c2, .int .i64 (f2 : Int), .int .i64 (n2 : Int)] 74, row A2 q2.length c2 (ci .i64 q2) 3 1, blk gt_ [.int .i64 v, .slice (some ⟨gd_, 0, none⟩) N N, .slice (some ⟨gb_, 0, none⟩) N N] 72, row (some ⟨gd_, 0, none⟩) N N (ci .i64 ds2) 3 1, row (some ⟨gb_, 0, none⟩) N N (ci .i64 bs2) 3 1] := H_
          clear H_
          refine ql (.bool true) (by kernel_rfl) (by kernel_rfl) ?_
          refine wpList_nil ?_
          refine x_then ?_
          refine wp_block ?_
          refine wp_seq ?_
          refine rg_still HS 9 (by kernel_rfl) (by kernel_rfl) ?_
          intro W54 H_ HK_
          simp only [List.take_succ_cons, List.take_zero, List.drop_succ_cons, List.drop_zero]
          replace HS : St W (owns []) W54 [blk g51 [.int .i64 ((gx arcs (rdI (idxs (keys false arcs) (rdI xs 0)) q)).1), .int .i64 ((gx arcs (rdI (idxs (keys false arcs) (rdI xs 0)) q)).2)] 35, row (some ⟨g48, 0, none⟩) ((idxs (keys false arcs) (rdI xs 0)).length) c42 (ci .i64 (idxs (keys false arcs) (rdI xs 0))) 3 1, blk g28 [.slice A2 q2.length c2, .int .i64 (f2 : Int), .int .i64 (n2 : Int)] 74, row A2 q2.length c2 (ci .i64 q2) 3 1, blk gt_ [.int .i64 v, .slice (some ⟨gd_, 0, none⟩) N N, .slice (some ⟨gb_, 0, none⟩) N N] 72, row (some ⟨gd_, 0, none⟩) N N (ci .i64 ds2) 3 1, row (some ⟨gb_, 0, none⟩) N N (ci .i64 bs2) 3 1] := H_
          clear H_
          clear HK_
          refine qs (.pointer (some ⟨gt_, 0, none⟩)) (by kernel_rfl) (by kernel_rfl) ?_
          refine qs (.pointer (some ⟨gt_, 0, none⟩)) (by kernel_rfl) (by kernel_rfl) ?_
          refine qs (.pointer (some ⟨gt_, 1, none⟩)) (by kernel_rfl) (by kernel_rfl) ?_
          refine qs (.slice (some ⟨gd_, 0, none⟩) N N) (by kernel_rfl) (R_load (p := ⟨gt_, 1, none⟩) (by kernel_rfl) (by kernel_rfl) (by kernel_rfl) (HS.cell (i := 4) (j := 1) rfl rfl)) ?_
          refine qs (.pointer (some ⟨g51, 1, none⟩)) (by kernel_rfl) (by kernel_rfl) ?_
          refine qs (.int .i64 ((gx arcs (rdI (idxs (keys false arcs) (rdI xs 0)) q)).2)) (by kernel_rfl) (R_load (p := ⟨g51, 1, none⟩) (by kernel_rfl) (by kernel_rfl) (by kernel_rfl) (HS.cell (i := 0) (j := 1) rfl rfl)) ?_
          refine qs (.pointer (some ⟨gd_, ((gx arcs (rdI (idxs (keys false arcs) (rdI xs 0)) q)).2).toNat, none⟩)) (by kernel_rfl) (R_index1 (k := .i64) (g := gd_) (n := N) (c := N) (i := (gx arcs (rdI (idxs (keys false arcs) (rdI xs 0)) q)).2) (by kernel_rfl) (by kernel_rfl) Try.underlying28 (by kernel_rfl) (by omega) (by omega)) ?_
          refine qs (.int .i64 (rdI ds2 ((gx arcs (rdI (idxs (keys false arcs) (rdI xs 0)) q)).2))) (by kernel_rfl) (R_load (p := ⟨gd_, ((gx arcs (rdI (idxs (keys false arcs) (rdI xs 0)) q)).2).toNat, none⟩) (by kernel_rfl) (by kernel_rfl) (by kernel_rfl) (HS.rcell (i := 5) rfl (ci_rd (by omega) (by omega)))) ?_
          by_cases hc55 : (rdI ds2 ((gx arcs (rdI (idxs (keys false arcs) (rdI xs 0)) q)).2)) < (0 : Int)
          · skip
            refine qs (.bool true) (by kernel_rfl) (R_bool (p := (rdI ds2 ((gx arcs (rdI (idxs (keys false arcs) (rdI xs 0)) q)).2)) < (0 : Int)) (by kernel_rfl) (hc55)) ?_
            refine wpStill_nil ?_
            refine ql (.bool true) (by kernel_rfl) (by kernel_rfl) ?_
            refine wpList_nil ?_
            refine x_then ?_
            refine wp_cond_true (by kernel_rfl) ?_
            refine wp_seq ?_
            refine t_start HS (fun k_ => (row (some ⟨gd_, 0, none⟩) N N (ci .i64 ds2) 3 1).own k_ ∨ (row (some ⟨gb_, 0, none⟩) N N (ci .i64 bs2) 3 1).own k_) 25 (by kernel_rfl) rfl ?_
            intro W56 H_ HD_
            clear HD_
            replace HS : St W (owns []) W56 [blk g51 [.int .i64 ((gx arcs (rdI (idxs (keys false arcs) (rdI xs 0)) q)).1), .int .i64 ((gx arcs (rdI (idxs (keys false arcs) (rdI xs 0)) q)).2)] 35, row (some ⟨g48, 0, none⟩) ((idxs (keys false arcs) (rdI xs 0)).length) c42 (ci .i64 (idxs (keys false arcs) (rdI xs 0))) 3 1, blk g28 [.slice A2 q2.length c2, .int .i64 (f2 : Int), .int .i64 (n2 : Int)] 74, row A2 q2.length c2 (ci .i64 q2) 3 1, blk gt_ [.int .i64 v, .slice (some ⟨gd_, 0, none⟩) N N, .slice (some ⟨gb_, 0, none⟩) N N] 72, row (some ⟨gd_, 0, none⟩) N N (ci .i64 ds2) 3 1, row (some ⟨gb_, 0, none⟩) N N (ci .i64 bs2) 3 1] := H_
            clear H_
            have HV := HS
            have HK := Kpt.refl (fun k_ => (row (some ⟨gd_, 0, none⟩) N N (ci .i64 ds2) 3 1).own k_ ∨ (row (some ⟨gb_, 0, none⟩) N N (ci .i64 bs2) 3 1).own k_) W56
            refine t_q (n := 24) 0 (.pointer (some ⟨gt_, 0, none⟩)) rfl (by kernel_rfl) (by kernel_rfl) (fun _ _ _ h => h) (fun w' hk => (by kernel_rfl)) HK ?_
            refine t_q (n := 23) 1 (.pointer (some ⟨gt_, 0, none⟩)) rfl (by kernel_rfl) (by kernel_rfl) (fun _ _ _ h => h) (fun w' hk => (by kernel_rfl)) HK ?_
            refine t_q (n := 22) 2 (.pointer (some ⟨gt_, 1, none⟩)) rfl (by kernel_rfl) (by kernel_rfl) (fun _ _ _ h => h) (fun w' hk => (by kernel_rfl)) HK ?_
            refine t_q (n := 21) 3 (.slice (some ⟨gd_, 0, none⟩) N N) rfl (by kernel_rfl) (by kernel_rfl) (fun _ _ _ h => h) (fun w' hk => (R_load (p := ⟨gt_, 1, none⟩) (by kernel_rfl) (by kernel_rfl) (by kernel_rfl) (hk.cellN (fun h_ => h_.elim (HV.sepB (a := 4) (b := 5) (by decide) rfl rfl) (HV.sepB (a := 4) (b := 6) (by decide) rfl rfl)) (HV.cell (i := 4) (j := 1) rfl rfl)))) HK ?_
            refine t_q (n := 20) 4 (.pointer (some ⟨g51, 1, none⟩)) rfl (by kernel_rfl) (by kernel_rfl) (fun _ _ _ h => h) (fun w' hk => (by kernel_rfl)) HK ?_
            refine t_q (n := 19) 5 (.int .i64 ((gx arcs (rdI (idxs (keys false arcs) (rdI xs 0)) q)).2)) rfl (by kernel_rfl) (by kernel_rfl) (fun _ _ _ h => h) (fun w' hk => (R_load (p := ⟨g51, 1, none⟩) (by kernel_rfl) (by kernel_rfl) (by kernel_rfl) (hk.cellN (fun h_ => h_.elim (HV.sepB (a := 0) (b := 5) (by decide) rfl rfl) (HV.sepB (a := 0) (b := 6) (by decide) rfl rfl)) (HV.cell (i := 0) (j := 1) rfl rfl)))) HK ?_
            refine t_q (n := 18) 6 (.pointer (some ⟨gt_, 0, none⟩)) rfl (by kernel_rfl) (by kernel_rfl) (fun _ _ _ h => h) (fun w' hk => (by kernel_rfl)) HK ?_
            refine t_q (n := 17) 7 (.pointer (some ⟨gt_, 0, none⟩)) rfl (by kernel_rfl) (by kernel_rfl) (fun _ _ _ h => h) (fun w' hk => (by kernel_rfl)) HK ?_
            refine t_q (n := 16) 8 (.pointer (some ⟨gt_, 2, none⟩)) rfl (by kernel_rfl) (by kernel_rfl) (fun _ _ _ h => h) (fun w' hk => (by kernel_rfl)) HK ?_
            refine t_q (n := 15) 9 (.slice (some ⟨gb_, 0, none⟩) N N) rfl (by kernel_rfl) (by kernel_rfl) (fun _ _ _ h => h) (fun w' hk => (R_load (p := ⟨gt_, 2, none⟩) (by kernel_rfl) (by kernel_rfl) (by kernel_rfl) (hk.cellN (fun h_ => h_.elim (HV.sepB (a := 4) (b := 5) (by decide) rfl rfl) (HV.sepB (a := 4) (b := 6) (by decide) rfl rfl)) (HV.cell (i := 4) (j := 2) rfl rfl)))) HK ?_
            refine t_q (n := 14) 10 (.pointer (some ⟨g51, 1, none⟩)) rfl (by kernel_rfl) (by kernel_rfl) (fun _ _ _ h => h) (fun w' hk => (by kernel_rfl)) HK ?_
            refine t_q (n := 13) 11 (.int .i64 ((gx arcs (rdI (idxs (keys false arcs) (rdI xs 0)) q)).2)) rfl (by kernel_rfl) (by kernel_rfl) (fun _ _ _ h => h) (fun w' hk => (R_load (p := ⟨g51, 1, none⟩) (by kernel_rfl) (by kernel_rfl) (by kernel_rfl) (hk.cellN (fun h_ => h_.elim (HV.sepB (a := 0) (b := 5) (by decide) rfl rfl) (HV.sepB (a := 0) (b := 6) (by decide) rfl rfl)) (HV.cell (i := 0) (j := 1) rfl rfl)))) HK ?_
            refine t_q (n := 12) 12 (.pointer (some ⟨gt_, 0, none⟩)) rfl (by kernel_rfl) (by kernel_rfl) (fun _ _ _ h => h) (fun w' hk => (by kernel_rfl)) HK ?_
            refine t_q (n := 11) 13 (.pointer (some ⟨gt_, 0, none⟩)) rfl (by kernel_rfl) (by kernel_rfl) (fun _ _ _ h => h) (fun w' hk => (by kernel_rfl)) HK ?_
            refine t_q (n := 10) 14 (.pointer (some ⟨gt_, 1, none⟩)) rfl (by kernel_rfl) (by kernel_rfl) (fun _ _ _ h => h) (fun w' hk => (by kernel_rfl)) HK ?_
            refine t_q (n := 9) 15 (.slice (some ⟨gd_, 0, none⟩) N N) rfl (by kernel_rfl) (by kernel_rfl) (fun _ _ _ h => h) (fun w' hk => (R_load (p := ⟨gt_, 1, none⟩) (by kernel_rfl) (by kernel_rfl) (by kernel_rfl) (hk.cellN (fun h_ => h_.elim (HV.sepB (a := 4) (b := 5) (by decide) rfl rfl) (HV.sepB (a := 4) (b := 6) (by decide) rfl rfl)) (HV.cell (i := 4) (j := 1) rfl rfl)))) HK ?_
            refine t_q (n := 8) 16 (.int .i64 (rdI xs 0)) rfl (by kernel_rfl) (by kernel_rfl) (fun _ _ _ h => h) (fun w' hk => (by kernel_rfl)) HK ?_
            refine t_q (n := 7) 17 (.pointer (some ⟨gd_, (rdI xs 0).toNat, none⟩)) rfl (by kernel_rfl) (by kernel_rfl) (fun _ _ _ h => h) (fun w' hk => (R_index1 (k := .i64) (g := gd_) (n := N) (c := N) (i := (rdI xs 0)) (by kernel_rfl) (by kernel_rfl) Try.underlying28 (by kernel_rfl) (by omega) (by omega))) HK ?_
            refine t_q (n := 6) 20 (.int .i64 (rdI (idxs (keys false arcs) (rdI xs 0)) q)) rfl (by kernel_rfl) (by kernel_rfl) (fun _ _ _ h => h) (fun w' hk => (by kernel_rfl)) HK ?_
            refine t_e (n := 5) 18 (.int .i64 (rdI ds2 (rdI xs 0))) rfl (by kernel_rfl) (by kernel_rfl) (R_load (p := ⟨gd_, (rdI xs 0).toNat, none⟩) (by kernel_rfl) (by kernel_rfl) (by kernel_rfl) (HS.rcell (i := 5) rfl (ci_rd (by omega) (by omega)))) HK ?_
            refine t_q (n := 4) 19 (.int .i64 ((rdI ds2 (rdI xs 0)) + 1)) rfl (by kernel_rfl) (by kernel_rfl) (fun _ _ _ h => h) (fun w' hk => (R_int (by kernel_rfl) (w64 (by omega)))) HK ?_
            refine t_q (n := 3) 21 (.pointer (some ⟨gd_, ((gx arcs (rdI (idxs (keys false arcs) (rdI xs 0)) q)).2).toNat, none⟩)) rfl (by kernel_rfl) (by kernel_rfl) (fun _ _ _ h => h) (fun w' hk => (R_index1 (k := .i64) (g := gd_) (n := N) (c := N) (i := (gx arcs (rdI (idxs (keys false arcs) (rdI xs 0)) q)).2) (by kernel_rfl) (by kernel_rfl) Try.underlying28 (by kernel_rfl) (by omega) (by omega))) HK ?_
            obtain ⟨W57, hrun_, H_, hk_⟩ := ex_kr (P := Try.prog) (ty := 0) (ps := "bfs.go:38") (af := #[{ on := 21, ground := Go.Ground.data }, { on := 19, ground := Go.Ground.data }, { on := 0, ground := Go.Ground.phase }, { on := 1, ground := Go.Ground.phase }, { on := 2, ground := Go.Ground.phase }, { on := 3, ground := Go.Ground.phase }, { on := 4, ground := Go.Ground.phase }, { on := 5, ground := Go.Ground.phase }, { on := 6, ground := (Go.Ground.textOnly Go.Departure.lateStores) }, { on := 7, ground := (Go.Ground.textOnly Go.Departure.lateStoresUnsure) }, { on := 8, ground := (Go.Ground.textOnly Go.Departure.lateStoresUnsure) }, { on := 9, ground := Go.Ground.phase }, { on := 10, ground := (Go.Ground.textOnly Go.Departure.lateStores) }, { on := 11, ground := (Go.Ground.textOnly Go.Departure.lateStores) }, { on := 12, ground := Go.Ground.phase }, { on := 13, ground := Go.Ground.phase }, { on := 14, ground := Go.Ground.phase }, { on := 15, ground := Go.Ground.phase }, { on := 16, ground := Go.Ground.phase }, { on := 17, ground := Go.Ground.phase }, { on := 18, ground := Go.Ground.phase }, { on := 19, ground := Go.Ground.phase }, { on := 20, ground := (Go.Ground.textOnly Go.Departure.lateStores) }]) (gd := none) (t := 3) (x := (Go.Operand.tmp 115)) (y := (Go.Operand.tmp 113)) (v := .int .i64 ((rdI ds2 (rdI xs 0)) + 1)) HS 5 rfl (((gx arcs (rdI (idxs (keys false arcs) (rdI xs 0)) q)).2).toNat) [.int .i64 ((rdI ds2 (rdI xs 0)) + 1)] (by kernel_rfl) (by kernel_rfl) (by kernel_rfl) (by kernel_rfl) (one_ (by kernel_rfl)) (by rw [ci_len]; first | omega | (simp only [List.length_singleton]; omega))
            replace HK := HK.trans hk_ (fun _ h_ => .inl (.inl (row_own h_)))
            refine t_s (n := 2) 22 rfl (by kernel_rfl) (by kernel_rfl) hrun_ HK ?_
            clear hk_ hrun_
            obtain ⟨xs58, xs58_⟩ : ∃ z_ : List Int, z_ = (ds2).set ((gx arcs (rdI (idxs (keys false arcs) (rdI xs 0)) q)).2).toNat ((rdI ds2 (rdI xs 0)) + 1) := ⟨_, rfl⟩
            replace HS : St W (owns []) W57 [blk g51 [.int .i64 ((gx arcs (rdI (idxs (keys false arcs) (rdI xs 0)) q)).1), .int .i64 ((gx arcs (rdI (idxs (keys false arcs) (rdI xs 0)) q)).2)] 35, row (some ⟨g48, 0, none⟩) ((idxs (keys false arcs) (rdI xs 0)).length) c42 (ci .i64 (idxs (keys false arcs) (rdI xs 0))) 3 1, blk g28 [.slice A2 q2.length c2, .int .i64 (f2 : Int), .int .i64 (n2 : Int)] 74, row A2 q2.length c2 (ci .i64 q2) 3 1, blk gt_ [.int .i64 v, .slice (some ⟨gd_, 0, none⟩) N N, .slice (some ⟨gb_, 0, none⟩) N N] 72, row (some ⟨gd_, 0, none⟩) N N (ci .i64 xs58) 3 1, row (some ⟨gb_, 0, none⟩) N N (ci .i64 bs2) 3 1] := H_.cast_ (by rw [xs58_, ← ci_set]; rfl)
            clear H_
            have xs58l : xs58.length = N := by rw [xs58_, List.length_set]; first | done | omega
            refine t_q (n := 1) 23 (.pointer (some ⟨gb_, ((gx arcs (rdI (idxs (keys false arcs) (rdI xs 0)) q)).2).toNat, none⟩)) rfl (by kernel_rfl) (by kernel_rfl) (fun _ _ _ h => h) (fun w' hk => (R_index1 (k := .i64) (g := gb_) (n := N) (c := N) (i := (gx arcs (rdI (idxs (keys false arcs) (rdI xs 0)) q)).2) (by kernel_rfl) (by kernel_rfl) Try.underlying28 (by kernel_rfl) (by omega) (by omega))) HK ?_
            obtain ⟨W59, hrun_, H_, hk_⟩ := ex_kr (P := Try.prog) (ty := 0) (ps := "bfs.go:38") (af := #[{ on := 23, ground := Go.Ground.data }, { on := 20, ground := Go.Ground.data }, { on := 22, ground := Go.Ground.chain }, { on := 0, ground := Go.Ground.phase }, { on := 1, ground := Go.Ground.phase }, { on := 2, ground := Go.Ground.phase }, { on := 3, ground := Go.Ground.phase }, { on := 4, ground := Go.Ground.phase }, { on := 5, ground := Go.Ground.phase }, { on := 6, ground := Go.Ground.phase }, { on := 7, ground := Go.Ground.phase }, { on := 8, ground := Go.Ground.phase }, { on := 9, ground := Go.Ground.phase }, { on := 10, ground := Go.Ground.phase }, { on := 11, ground := Go.Ground.phase }, { on := 12, ground := Go.Ground.phase }, { on := 13, ground := Go.Ground.phase }, { on := 14, ground := Go.Ground.phase }, { on := 15, ground := Go.Ground.phase }, { on := 16, ground := Go.Ground.phase }, { on := 17, ground := Go.Ground.phase }, { on := 18, ground := Go.Ground.phase }, { on := 19, ground := Go.Ground.phase }, { on := 20, ground := Go.Ground.phase }, { on := 21, ground := Go.Ground.phase }, { on := 22, ground := Go.Ground.phase }]) (gd := none) (t := 3) (x := (Go.Operand.tmp 116)) (y := (Go.Operand.tmp 114)) (v := .int .i64 (rdI (idxs (keys false arcs) (rdI xs 0)) q)) HS 6 rfl (((gx arcs (rdI (idxs (keys false arcs) (rdI xs 0)) q)).2).toNat) [.int .i64 (rdI (idxs (keys false arcs) (rdI xs 0)) q)] (by kernel_rfl) (by kernel_rfl) (by kernel_rfl) (by kernel_rfl) (one_ (by kernel_rfl)) (by rw [ci_len]; first | omega | (simp only [List.length_singleton]; omega))
            replace HK := HK.trans hk_ (fun _ h_ => .inl (.inr (row_own h_)))
            refine t_s (n := 0) 24 rfl (by kernel_rfl) (by kernel_rfl) hrun_ HK ?_
            clear hk_ hrun_
            obtain ⟨xs60, xs60_⟩ : ∃ z_ : List Int, z_ = (bs2).set ((gx arcs (rdI (idxs (keys false arcs) (rdI xs 0)) q)).2).toNat (rdI (idxs (keys false arcs) (rdI xs 0)) q) := ⟨_, rfl⟩
            replace HS : St W (owns []) W59 [blk g51 [.int .i64 ((gx arcs (rdI (idxs (keys false arcs) (rdI xs 0)) q)).1), .int .i64 ((gx arcs (rdI (idxs (keys false arcs) (rdI xs 0)) q)).2)] 35, row (some ⟨g48, 0, none⟩) ((idxs (keys false arcs) (rdI xs 0)).length) c42 (ci .i64 (idxs (keys false arcs) (rdI xs 0))) 3 1, blk g28 [.slice A2 q2.length c2, .int .i64 (f2 : Int), .int .i64 (n2 : Int)] 74, row A2 q2.length c2 (ci .i64 q2) 3 1, blk gt_ [.int .i64 v, .slice (some ⟨gd_, 0, none⟩) N N, .slice (some ⟨gb_, 0, none⟩) N N] 72, row (some ⟨gd_, 0, none⟩) N N (ci .i64 xs58) 3 1, row (some ⟨gb_, 0, none⟩) N N (ci .i64 xs60) 3 1] := H_.cast_ (by rw [xs60_, ← ci_set]; rfl)
            clear H_
            have xs60l : xs60.length = N := by rw [xs60_, List.length_set]; first | done | omega
            refine t_done (by kernel_rfl) ?_
            clear HV HK
            refine x_then ?_
            refine wp_region_lit ?_
            refine ql (.pointer (some ⟨g51, 1, none⟩)) (by kernel_rfl) (by kernel_rfl) ?_
            refine ql (.int .i64 ((gx arcs (rdI (idxs (keys false arcs) (rdI xs 0)) q)).2)) (by kernel_rfl) (R_load (p := ⟨g51, 1, none⟩) (by kernel_rfl) (by kernel_rfl) (by kernel_rfl) (HS.cell (i := 0) (j := 1) rfl rfl)) ?_
            refine kl HS 1 [.int .i64 ((gx arcs (rdI (idxs (keys false arcs) (rdI xs 0)) q)).2)] 3 1 (by kernel_rfl) (by kernel_rfl) rfl (by decide) ?_
            intro g61 W62 H_
            replace HS : St W (owns []) W62 [row (some ⟨g61, 0, none⟩) 1 1 (ci .i64 ([(gx arcs (rdI (idxs (keys false arcs) (rdI xs 0)) q)).2])) 3 1, blk g51 [.int .i64 ((gx arcs (rdI (idxs (keys false arcs) (rdI xs 0)) q)).1), .int .i64 ((gx arcs (rdI (idxs (keys false arcs) (rdI xs 0)) q)).2)] 35, row (some ⟨g48, 0, none⟩) ((idxs (keys false arcs) (rdI xs 0)).length) c42 (ci .i64 (idxs (keys false arcs) (rdI xs 0))) 3 1, blk g28 [.slice A2 q2.length c2, .int .i64 (f2 : Int), .int .i64 (n2 : Int)] 74, row A2 q2.length c2 (ci .i64 q2) 3 1, blk gt_ [.int .i64 v, .slice (some ⟨gd_, 0, none⟩) N N, .slice (some ⟨gb_, 0, none⟩) N N] 72, row (some ⟨gd_, 0, none⟩) N N (ci .i64 xs58) 3 1, row (some ⟨gb_, 0, none⟩) N N (ci .i64 xs60) 3 1] := H_.cast_ (by kernel_rfl)
            clear H_
            refine qc (f := 51) (args := #[.pointer (some ⟨g28, 0, none⟩), .slice (some ⟨g61, 0, none⟩) 1 1]) (by kernel_rfl) (R_call #[.pointer (some ⟨g28, 0, none⟩), .slice (some ⟨g61, 0, none⟩) 1 1] Try.func51 (by kernel_rfl) (by kernel_rfl) (by kernel_rfl)) ?_
            replace HS : St W (owns []) W62 [blk g28 [.slice A2 q2.length c2, .int .i64 (f2 : Int), .int .i64 (n2 : Int)] 74, row A2 q2.length c2 (ci .i64 q2) 3 1, row (some ⟨g61, 0, none⟩) 1 1 (ci .i64 ([(gx arcs (rdI (idxs (keys false arcs) (rdI xs 0)) q)).2])) 3 1, blk g51 [.int .i64 ((gx arcs (rdI (idxs (keys false arcs) (rdI xs 0)) q)).1), .int .i64 ((gx arcs (rdI (idxs (keys false arcs) (rdI xs 0)) q)).2)] 35, row (some ⟨g48, 0, none⟩) ((idxs (keys false arcs) (rdI xs 0)).length) c42 (ci .i64 (idxs (keys false arcs) (rdI xs 0))) 3 1, blk gt_ [.int .i64 v, .slice (some ⟨gd_, 0, none⟩) N N, .slice (some ⟨gb_, 0, none⟩) N N] 72, row (some ⟨gd_, 0, none⟩) N N (ci .i64 xs58) 3 1, row (some ⟨gb_, 0, none⟩) N N (ci .i64 xs60) 3 1] := HS.perm (perm_ [3, 4, 0, 1, 2, 5, 6, 7] (by kernel_rfl) rfl)
            refine (qpush g28 74 [] _ _ c2 _ f2 n2 q2 xs2 ([(gx arcs (rdI (idxs (keys false arcs) (rdI xs 0)) q)).2]) _ _ (St.focus (F := [blk g28 [.slice A2 q2.length c2, .int .i64 (f2 : Int), .int .i64 (n2 : Int)] 74, row A2 q2.length c2 (ci .i64 q2) 3 1, row (some ⟨g61, 0, none⟩) 1 1 (ci .i64 ([(gx arcs (rdI (idxs (keys false arcs) (rdI xs 0)) q)).2])) 3 1]) HS) hr2 (by have hb9 := bj_bound hB2 hJ; simp only [List.length_cons, List.length_nil]; omega)).mono ?_
            rintro e W64 ⟨Ap63, cp63, fp63, np63, qp63, rfl, H_, hrp63⟩
            refine ⟨_, rfl, ?_⟩
            replace HS : St W (owns []) W64 [blk g28 [.slice Ap63 qp63.length cp63, .int .i64 (fp63 : Int), .int .i64 (np63 : Int)] 74, row Ap63 qp63.length cp63 (ci .i64 qp63) 3 1, blk g51 [.int .i64 ((gx arcs (rdI (idxs (keys false arcs) (rdI xs 0)) q)).1), .int .i64 ((gx arcs (rdI (idxs (keys false arcs) (rdI xs 0)) q)).2)] 35, row (some ⟨g48, 0, none⟩) ((idxs (keys false arcs) (rdI xs 0)).length) c42 (ci .i64 (idxs (keys false arcs) (rdI xs 0))) 3 1, blk gt_ [.int .i64 v, .slice (some ⟨gd_, 0, none⟩) N N, .slice (some ⟨gb_, 0, none⟩) N N] 72, row (some ⟨gd_, 0, none⟩) N N (ci .i64 xs58) 3 1, row (some ⟨gb_, 0, none⟩) N N (ci .i64 xs60) 3 1] := HS.join (F := [blk g28 [.slice A2 q2.length c2, .int .i64 (f2 : Int), .int .i64 (n2 : Int)] 74, row A2 q2.length c2 (ci .i64 q2) 3 1, row (some ⟨g61, 0, none⟩) 1 1 (ci .i64 ([(gx arcs (rdI (idxs (keys false arcs) (rdI xs 0)) q)).2])) 3 1]) (G := [blk g28 [.slice Ap63 qp63.length cp63, .int .i64 (fp63 : Int), .int .i64 (np63 : Int)] 74, row Ap63 qp63.length cp63 (ci .i64 qp63) 3 1]) H_
            clear H_
            refine wpList_nil ?_
            refine x_inb ?_
            refine x_inb ?_
            refine x_then ?_
            refine wp_region_lit ?_
            refine ql (.int .i64 (q + 1)) (by kernel_rfl) (R_int (by kernel_rfl) (w64 (by omega))) ?_
            refine ql (.int .i64 (q + 1)) (by kernel_rfl) (by kernel_rfl) ?_
            refine wpList_nil ?_
            replace HS : St W (owns []) W64 [row (some ⟨g48, 0, none⟩) ((idxs (keys false arcs) (rdI xs 0)).length) c42 (ci .i64 (idxs (keys false arcs) (rdI xs 0))) 3 1, blk g28 [.slice Ap63 qp63.length cp63, .int .i64 (fp63 : Int), .int .i64 (np63 : Int)] 74, row Ap63 qp63.length cp63 (ci .i64 qp63) 3 1, blk gt_ [.int .i64 v, .slice (some ⟨gd_, 0, none⟩) N N, .slice (some ⟨gb_, 0, none⟩) N N] 72, row (some ⟨gd_, 0, none⟩) N N (ci .i64 xs58) 3 1, row (some ⟨gb_, 0, none⟩) N N (ci .i64 xs60) 3 1] := St.tail (F := [blk g51 [.int .i64 ((gx arcs (rdI (idxs (keys false arcs) (rdI xs 0)) q)).1), .int .i64 ((gx arcs (rdI (idxs (keys false arcs) (rdI xs 0)) q)).2)] 35]) (HS.perm (perm_ [2, 3, 0, 1, 4, 5, 6] (by kernel_rfl) rfl))
            have hst := bq_new hF hB2 hJ q0 (by omega) rfl hc55 xs58_ xs60_
            have hng := ng_set (ds := ds2) (w := (gx arcs (rdI (idxs (keys false arcs) (rdI xs 0)) q)).2) (x := rdI ds2 (rdI xs 0) + 1) hfi.2.2.1 (by omega) hc55 (by omega)
            rw [← xs58_] at hng
            refine x_then ?_
            exact ⟨(idxs (keys false arcs) (rdI xs 0)).length - (q + 1).toNat, by omega, (fun k_ : Nat => List.getD ((.pointer (some ⟨g, 0, none⟩)) :: (.int .i64 v) :: (.pointer none) :: undef :: undef :: undef :: (.pointer none) :: (.int .i64 (N : Int)) :: (.pointer (some ⟨gt_, 0, none⟩)) :: ((J17 9)) :: (.pointer (some ⟨g28, 0, none⟩)) :: (.int .i64 (rdI xs 0)) :: (.bool true) :: undef :: (.int .i64 (rdI (idxs (keys false arcs) (rdI xs 0)) q)) :: (.pointer (some ⟨g51, 0, none⟩)) :: (.bool true) :: (.pointer (some ⟨g, 0, none⟩)) :: (.int .i64 (N : Int)) :: ((u2 19)) :: ((u2 20)) :: ((u2 21)) :: ((u2 22)) :: ((u2 23)) :: ((u2 24)) :: ((u2 25)) :: (.int .i64 (N : Int)) :: (.int .i64 w) :: (.bool false) :: ((J17 29)) :: ((J17 30)) :: ((J17 31)) :: ((J17 32)) :: ((J17 33)) :: ((J17 34)) :: ((J17 35)) :: ((J17 36)) :: ((J17 37)) :: ((J17 38)) :: ((J17 39)) :: ((J17 40)) :: ((J17 41)) :: ((J17 42)) :: (.int .i64 v) :: (.bool false) :: (.bool false) :: (.int .i64 v) :: (.int .i64 (N : Int)) :: (.bool false) :: (.bool false) :: undef :: (.pointer (some ⟨gt_, 0, none⟩)) :: (.pointer (some ⟨gt_, 0, none⟩)) :: (.pointer (some ⟨gt_, 1, none⟩)) :: (.slice (some ⟨gd_, 0, none⟩) N N) :: (.int .i64 v) :: (.pointer (some ⟨gd_, v.toNat, none⟩)) :: (.int .i64 v) :: (.slice (some ⟨g30, 0, none⟩) 1 1) :: (.tuple #[]) :: (.int .i64 (nq : Int)) :: (.bool true) :: (.tuple #[.int .i64 (rdI xs 0), .bool true]) :: (.tuple #[.int .i64 (rdI xs 0), .bool true]) :: (.int .i64 (rdI xs 0)) :: (.bool true) :: (.pointer none) :: (.tuple #[]) :: (.pointer (some ⟨g, 0, none⟩)) :: (.int .i64 (rdI xs 0)) :: (.slice (some ⟨g48, 0, none⟩) ((idxs (keys false arcs) (rdI xs 0)).length) c42) :: (.int .i64 ((idxs (keys false arcs) (rdI xs 0)).length : Int)) :: (.int .i64 (q + 1)) :: (.bool true) :: (.pointer (some ⟨g48, q.toNat, none⟩)) :: (.int .i64 (rdI (idxs (keys false arcs) (rdI xs 0)) q)) :: (.pointer none) :: (.tuple #[]) :: (.tuple #[.agg #[.int .i64 ((gx arcs (rdI (idxs (keys false arcs) (rdI xs 0)) q)).1), .int .i64 ((gx arcs (rdI (idxs (keys false arcs) (rdI xs 0)) q)).2)], .bool true]) :: (.pointer (some ⟨g, 0, none⟩)) :: (.int .i64 (rdI (idxs (keys false arcs) (rdI xs 0)) q)) :: (.tuple #[.agg #[.int .i64 ((gx arcs (rdI (idxs (keys false arcs) (rdI xs 0)) q)).1), .int .i64 ((gx arcs (rdI (idxs (keys false arcs) (rdI xs 0)) q)).2)], .bool true]) :: (.agg #[.int .i64 ((gx arcs (rdI (idxs (keys false arcs) (rdI xs 0)) q)).1), .int .i64 ((gx arcs (rdI (idxs (keys false arcs) (rdI xs 0)) q)).2)]) :: (.bool true) :: (.bool true) :: (.pointer (some ⟨gt_, 0, none⟩)) :: (.pointer (some ⟨gt_, 0, none⟩)) :: (.pointer (some ⟨gt_, 1, none⟩)) :: (.slice (some ⟨gd_, 0, none⟩) N N) :: (.pointer (some ⟨g51, 1, none⟩)) :: (.int .i64 ((gx arcs (rdI (idxs (keys false arcs) (rdI xs 0)) q)).2)) :: (.pointer (some ⟨gd_, ((gx arcs (rdI (idxs (keys false arcs) (rdI xs 0)) q)).2).toNat, none⟩)) :: (.int .i64 (rdI ds2 ((gx arcs (rdI (idxs (keys false arcs) (rdI xs 0)) q)).2))) :: (.bool true) :: (.pointer (some ⟨gt_, 0, none⟩)) :: (.pointer (some ⟨gt_, 0, none⟩)) :: (.pointer (some ⟨gt_, 1, none⟩)) :: (.slice (some ⟨gd_, 0, none⟩) N N) :: (.pointer (some ⟨g51, 1, none⟩)) :: (.int .i64 ((gx arcs (rdI (idxs (keys false arcs) (rdI xs 0)) q)).2)) :: (.pointer (some ⟨gt_, 0, none⟩)) :: (.pointer (some ⟨gt_, 0, none⟩)) :: (.pointer (some ⟨gt_, 2, none⟩)) :: (.slice (some ⟨gb_, 0, none⟩) N N) :: (.pointer (some ⟨g51, 1, none⟩)) :: (.int .i64 ((gx arcs (rdI (idxs (keys false arcs) (rdI xs 0)) q)).2)) :: (.pointer (some ⟨gt_, 0, none⟩)) :: (.pointer (some ⟨gt_, 0, none⟩)) :: (.pointer (some ⟨gt_, 1, none⟩)) :: (.slice (some ⟨gd_, 0, none⟩) N N) :: (.int .i64 (rdI xs 0)) :: (.pointer (some ⟨gd_, (rdI xs 0).toNat, none⟩)) :: (.int .i64 (rdI ds2 (rdI xs 0))) :: (.int .i64 ((rdI ds2 (rdI xs 0)) + 1)) :: (.int .i64 (rdI (idxs (keys false arcs) (rdI xs 0)) q)) :: (.pointer (some ⟨gd_, ((gx arcs (rdI (idxs (keys false arcs) (rdI xs 0)) q)).2).toNat, none⟩)) :: (.pointer (some ⟨gb_, ((gx arcs (rdI (idxs (keys false arcs) (rdI xs 0)) q)).2).toNat, none⟩)) :: (.pointer (some ⟨g51, 1, none⟩)) :: (.int .i64 ((gx arcs (rdI (idxs (keys false arcs) (rdI xs 0)) q)).2)) :: (.slice (some ⟨g61, 0, none⟩) 1 1) :: (.tuple #[]) :: ((J44 121)) :: ((J44 122)) :: ((J44 123)) :: ((J44 124)) :: ((J44 125)) :: ((J44 126)) :: ((J44 127)) :: ((J44 128)) :: ((J44 129)) :: ((J44 130)) :: ((J44 131)) :: ((J44 132)) :: ((J44 133)) :: ((J44 134)) :: ((J44 135)) :: ((J44 136)) :: ((J44 137)) :: ((J44 138)) :: ((J44 139)) :: ((J44 140)) :: ((J44 141)) :: ((J44 142)) :: ((J44 143)) :: ((J44 144)) :: ((J44 145)) :: ((J44 146)) :: ((J44 147)) :: ((J44 148)) :: ((J44 149)) :: ((J44 150)) :: ((J44 151)) :: ((J44 152)) :: ((J44 153)) :: ((J44 154)) :: ((J44 155)) :: (.int .i64 (q + 1)) :: undef :: []) k_ undef), q + 1, Ap63, cp63, fp63, np63, qp63, (xs2 ++ [(gx arcs (rdI (idxs (keys false arcs) (rdI xs 0)) q)).2]), xs58, xs60, ((rdI (idxs (keys false arcs) (rdI xs 0)) q) :: G2), (k2 + 1), congrArg Fr (by kernel_rfl), rfl, by omega, by omega, hst.1, hst.2, hrp63, by rw [List.length_append, List.length_singleton]; omega, by omega, by omega, HS⟩
          · skip
            refine qs (.bool false) (by kernel_rfl) (R_nbool (p := (rdI ds2 ((gx arcs (rdI (idxs (keys false arcs) (rdI xs 0)) q)).2)) < (0 : Int)) (by kernel_rfl) (hc55)) ?_
            refine wpStill_nil ?_
            refine ql (.bool false) (by kernel_rfl) (by kernel_rfl) ?_
            refine wpList_nil ?_
            refine x_then ?_
            refine wp_cond_false (by kernel_rfl) ?_
            refine wp_seq ?_
            refine rg_still HS 17 (by kernel_rfl) (by kernel_rfl) ?_
            intro W65 H_ HK_
            simp only [List.take_succ_cons, List.take_zero, List.drop_succ_cons, List.drop_zero]
            replace HS : St W (owns []) W65 [blk g51 [.int .i64 ((gx arcs (rdI (idxs (keys false arcs) (rdI xs 0)) q)).1), .int .i64 ((gx arcs (rdI (idxs (keys false arcs) (rdI xs 0)) q)).2)] 35, row (some ⟨g48, 0, none⟩) ((idxs (keys false arcs) (rdI xs 0)).length) c42 (ci .i64 (idxs (keys false arcs) (rdI xs 0))) 3 1, blk g28 [.slice A2 q2.length c2, .int .i64 (f2 : Int), .int .i64 (n2 : Int)] 74, row A2 q2.length c2 (ci .i64 q2) 3 1, blk gt_ [.int .i64 v, .slice (some ⟨gd_, 0, none⟩) N N, .slice (some ⟨gb_, 0, none⟩) N N] 72, row (some ⟨gd_, 0, none⟩) N N (ci .i64 ds2) 3 1, row (some ⟨gb_, 0, none⟩) N N (ci .i64 bs2) 3 1] := H_
            clear H_
            clear HK_
            refine qs (.pointer (some ⟨gt_, 0, none⟩)) (by kernel_rfl) (by kernel_rfl) ?_
            refine qs (.pointer (some ⟨gt_, 0, none⟩)) (by kernel_rfl) (by kernel_rfl) ?_
            refine qs (.pointer (some ⟨gt_, 1, none⟩)) (by kernel_rfl) (by kernel_rfl) ?_
            refine qs (.slice (some ⟨gd_, 0, none⟩) N N) (by kernel_rfl) (R_load (p := ⟨gt_, 1, none⟩) (by kernel_rfl) (by kernel_rfl) (by kernel_rfl) (HS.cell (i := 4) (j := 1) rfl rfl)) ?_
            refine qs (.pointer (some ⟨g51, 1, none⟩)) (by kernel_rfl) (by kernel_rfl) ?_
            refine qs (.int .i64 ((gx arcs (rdI (idxs (keys false arcs) (rdI xs 0)) q)).2)) (by kernel_rfl) (R_load (p := ⟨g51, 1, none⟩) (by kernel_rfl) (by kernel_rfl) (by kernel_rfl) (HS.cell (i := 0) (j := 1) rfl rfl)) ?_
            refine qs (.pointer (some ⟨gd_, ((gx arcs (rdI (idxs (keys false arcs) (rdI xs 0)) q)).2).toNat, none⟩)) (by kernel_rfl) (R_index1 (k := .i64) (g := gd_) (n := N) (c := N) (i := (gx arcs (rdI (idxs (keys false arcs) (rdI xs 0)) q)).2) (by kernel_rfl) (by kernel_rfl) Try.underlying28 (by kernel_rfl) (by omega) (by omega)) ?_
            refine qs (.int .i64 (rdI ds2 ((gx arcs (rdI (idxs (keys false arcs) (rdI xs 0)) q)).2))) (by kernel_rfl) (R_load (p := ⟨gd_, ((gx arcs (rdI (idxs (keys false arcs) (rdI xs 0)) q)).2).toNat, none⟩) (by kernel_rfl) (by kernel_rfl) (by kernel_rfl) (HS.rcell (i := 5) rfl (ci_rd (by omega) (by omega)))) ?_
            refine qs (.pointer (some ⟨gt_, 0, none⟩)) (by kernel_rfl) (by kernel_rfl) ?_
            refine qs (.pointer (some ⟨gt_, 0, none⟩)) (by kernel_rfl) (by kernel_rfl) ?_
            refine qs (.pointer (some ⟨gt_, 1, none⟩)) (by kernel_rfl) (by kernel_rfl) ?_
            refine qs (.slice (some ⟨gd_, 0, none⟩) N N) (by kernel_rfl) (R_load (p := ⟨gt_, 1, none⟩) (by kernel_rfl) (by kernel_rfl) (by kernel_rfl) (HS.cell (i := 4) (j := 1) rfl rfl)) ?_
            refine qs (.int .i64 (rdI xs 0)) (by kernel_rfl) (by kernel_rfl) ?_
            refine qs (.pointer (some ⟨gd_, (rdI xs 0).toNat, none⟩)) (by kernel_rfl) (R_index1 (k := .i64) (g := gd_) (n := N) (c := N) (i := (rdI xs 0)) (by kernel_rfl) (by kernel_rfl) Try.underlying28 (by kernel_rfl) (by omega) (by omega)) ?_
            refine qs (.int .i64 (rdI ds2 (rdI xs 0))) (by kernel_rfl) (R_load (p := ⟨gd_, (rdI xs 0).toNat, none⟩) (by kernel_rfl) (by kernel_rfl) (by kernel_rfl) (HS.rcell (i := 5) rfl (ci_rd (by omega) (by omega)))) ?_
            refine qs (.int .i64 ((rdI ds2 (rdI xs 0)) + 1)) (by kernel_rfl) (R_int (by kernel_rfl) (w64 (by omega))) ?_
            by_cases hc66 : (rdI ds2 ((gx arcs (rdI (idxs (keys false arcs) (rdI xs 0)) q)).2)) = ((rdI ds2 (rdI xs 0)) + 1)
            · skip
              refine qs (.bool true) (by kernel_rfl) (R_beq (b := (rdI ds2 ((gx arcs (rdI (idxs (keys false arcs) (rdI xs 0)) q)).2) == (rdI ds2 (rdI xs 0)) + 1)) (by kernel_rfl) (beq_t (hc66))) ?_
              refine wpStill_nil ?_
              refine ql (.bool true) (by kernel_rfl) (by kernel_rfl) ?_
              refine wpList_nil ?_
              refine x_then ?_
              refine wp_cond_true (by kernel_rfl) ?_
              refine rg_still HS 17 (by kernel_rfl) (by kernel_rfl) ?_
              intro W67 H_ HK_
              simp only [List.take_succ_cons, List.take_zero, List.drop_succ_cons, List.drop_zero]
              replace HS : St W (owns []) W67 [blk g51 [.int .i64 ((gx arcs (rdI (idxs (keys false arcs) (rdI xs 0)) q)).1), .int .i64 ((gx arcs (rdI (idxs (keys false arcs) (rdI xs 0)) q)).2)] 35, row (some ⟨g48, 0, none⟩) ((idxs (keys false arcs) (rdI xs 0)).length) c42 (ci .i64 (idxs (keys false arcs) (rdI xs 0))) 3 1, blk g28 [.slice A2 q2.length c2, .int .i64 (f2 : Int), .int .i64 (n2 : Int)] 74, row A2 q2.length c2 (ci .i64 q2) 3 1, blk gt_ [.int .i64 v, .slice (some ⟨gd_, 0, none⟩) N N, .slice (some ⟨gb_, 0, none⟩) N N] 72, row (some ⟨gd_, 0, none⟩) N N (ci .i64 ds2) 3 1, row (some ⟨gb_, 0, none⟩) N N (ci .i64 bs2) 3 1] := H_
              clear H_
              clear HK_
              refine qs (.pointer (some ⟨gt_, 0, none⟩)) (by kernel_rfl) (by kernel_rfl) ?_
              refine qs (.pointer (some ⟨gt_, 0, none⟩)) (by kernel_rfl) (by kernel_rfl) ?_
              refine qs (.pointer (some ⟨gt_, 2, none⟩)) (by kernel_rfl) (by kernel_rfl) ?_
              refine qs (.slice (some ⟨gb_, 0, none⟩) N N) (by kernel_rfl) (R_load (p := ⟨gt_, 2, none⟩) (by kernel_rfl) (by kernel_rfl) (by kernel_rfl) (HS.cell (i := 4) (j := 2) rfl rfl)) ?_
              refine qs (.pointer (some ⟨g51, 1, none⟩)) (by kernel_rfl) (by kernel_rfl) ?_
              refine qs (.int .i64 ((gx arcs (rdI (idxs (keys false arcs) (rdI xs 0)) q)).2)) (by kernel_rfl) (R_load (p := ⟨g51, 1, none⟩) (by kernel_rfl) (by kernel_rfl) (by kernel_rfl) (HS.cell (i := 0) (j := 1) rfl rfl)) ?_
              refine qs (.pointer (some ⟨gt_, 0, none⟩)) (by kernel_rfl) (by kernel_rfl) ?_
              refine qs (.pointer (some ⟨gt_, 0, none⟩)) (by kernel_rfl) (by kernel_rfl) ?_
              refine qs (.pointer (some ⟨gt_, 2, none⟩)) (by kernel_rfl) (by kernel_rfl) ?_
              refine qs (.slice (some ⟨gb_, 0, none⟩) N N) (by kernel_rfl) (R_load (p := ⟨gt_, 2, none⟩) (by kernel_rfl) (by kernel_rfl) (by kernel_rfl) (HS.cell (i := 4) (j := 2) rfl rfl)) ?_
              refine qs (.pointer (some ⟨g51, 1, none⟩)) (by kernel_rfl) (by kernel_rfl) ?_
              refine qs (.int .i64 ((gx arcs (rdI (idxs (keys false arcs) (rdI xs 0)) q)).2)) (by kernel_rfl) (R_load (p := ⟨g51, 1, none⟩) (by kernel_rfl) (by kernel_rfl) (by kernel_rfl) (HS.cell (i := 0) (j := 1) rfl rfl)) ?_
              refine qs (.pointer (some ⟨gb_, ((gx arcs (rdI (idxs (keys false arcs) (rdI xs 0)) q)).2).toNat, none⟩)) (by kernel_rfl) (R_index1 (k := .i64) (g := gb_) (n := N) (c := N) (i := (gx arcs (rdI (idxs (keys false arcs) (rdI xs 0)) q)).2) (by kernel_rfl) (by kernel_rfl) Try.underlying28 (by kernel_rfl) (by omega) (by omega)) ?_
              refine qs (.int .i64 (rdI bs2 ((gx arcs (rdI (idxs (keys false arcs) (rdI xs 0)) q)).2))) (by kernel_rfl) (R_load (p := ⟨gb_, ((gx arcs (rdI (idxs (keys false arcs) (rdI xs 0)) q)).2).toNat, none⟩) (by kernel_rfl) (by kernel_rfl) (by kernel_rfl) (HS.rcell (i := 6) rfl (ci_rd (by omega) (by omega)))) ?_
              refine qs (.int .i64 (rdI (idxs (keys false arcs) (rdI xs 0)) q)) (by kernel_rfl) (by kernel_rfl) ?_
              refine qs (.int .i64 (min (rdI bs2 ((gx arcs (rdI (idxs (keys false arcs) (rdI xs 0)) q)).2)) (rdI (idxs (keys false arcs) (rdI xs 0)) q))) (by kernel_rfl) (R_min (i := rdI bs2 ((gx arcs (rdI (idxs (keys false arcs) (rdI xs 0)) q)).2)) (j := rdI (idxs (keys false arcs) (rdI xs 0)) q) (by kernel_rfl) (by kernel_rfl)) ?_
              refine qs (.pointer (some ⟨gb_, ((gx arcs (rdI (idxs (keys false arcs) (rdI xs 0)) q)).2).toNat, none⟩)) (by kernel_rfl) (R_index1 (k := .i64) (g := gb_) (n := N) (c := N) (i := (gx arcs (rdI (idxs (keys false arcs) (rdI xs 0)) q)).2) (by kernel_rfl) (by kernel_rfl) Try.underlying28 (by kernel_rfl) (by omega) (by omega)) ?_
              refine wpStill_nil ?_
              refine kr (v := .int .i64 (min (rdI bs2 ((gx arcs (rdI (idxs (keys false arcs) (rdI xs 0)) q)).2)) (rdI (idxs (keys false arcs) (rdI xs 0)) q))) HS 6 rfl (((gx arcs (rdI (idxs (keys false arcs) (rdI xs 0)) q)).2).toNat) [.int .i64 (min (rdI bs2 ((gx arcs (rdI (idxs (keys false arcs) (rdI xs 0)) q)).2)) (rdI (idxs (keys false arcs) (rdI xs 0)) q))] (by kernel_rfl) (by kernel_rfl) (by kernel_rfl) (by kernel_rfl) (by kernel_rfl) (one_ (by kernel_rfl)) (by rw [ci_len]; first | omega | (simp only [List.length_singleton]; omega)) rfl ?_
              intro W68 H_
              obtain ⟨xs69, xs69_⟩ : ∃ z_ : List Int, z_ = (bs2).set ((gx arcs (rdI (idxs (keys false arcs) (rdI xs 0)) q)).2).toNat (min (rdI bs2 ((gx arcs (rdI (idxs (keys false arcs) (rdI xs 0)) q)).2)) (rdI (idxs (keys false arcs) (rdI xs 0)) q)) := ⟨_, rfl⟩
              replace HS : St W (owns []) W68 [blk g51 [.int .i64 ((gx arcs (rdI (idxs (keys false arcs) (rdI xs 0)) q)).1), .int .i64 ((gx arcs (rdI (idxs (keys false arcs) (rdI xs 0)) q)).2)] 35, row (some ⟨g48, 0, none⟩) ((idxs (keys false arcs) (rdI xs 0)).length) c42 (ci .i64 (idxs (keys false arcs) (rdI xs 0))) 3 1, blk g28 [.slice A2 q2.length c2, .int .i64 (f2 : Int), .int .i64 (n2 : Int)] 74, row A2 q2.length c2 (ci .i64 q2) 3 1, blk gt_ [.int .i64 v, .slice (some ⟨gd_, 0, none⟩) N N, .slice (some ⟨gb_, 0, none⟩) N N] 72, row (some ⟨gd_, 0, none⟩) N N (ci .i64 ds2) 3 1, row (some ⟨gb_, 0, none⟩) N N (ci .i64 xs69) 3 1] := H_.cast_ (by rw [xs69_, ← ci_set]; rfl)
              clear H_
              have xs69l : xs69.length = N := by rw [xs69_, List.length_set]; first | done | omega
              refine wpList_nil ?_
              refine x_inb ?_
              refine x_inb ?_
              refine x_then ?_
              refine wp_region_lit ?_
              refine ql (.int .i64 (q + 1)) (by kernel_rfl) (R_int (by kernel_rfl) (w64 (by omega))) ?_
              refine ql (.int .i64 (q + 1)) (by kernel_rfl) (by kernel_rfl) ?_
              refine wpList_nil ?_
              replace HS := HS.drop1
              have hst := bq_min hF hB2 hJ q0 (by omega) rfl hc66 xs69_
              refine x_then ?_
              exact ⟨(idxs (keys false arcs) (rdI xs 0)).length - (q + 1).toNat, by omega, (fun k_ : Nat => List.getD ((.pointer (some ⟨g, 0, none⟩)) :: (.int .i64 v) :: (.pointer none) :: undef :: undef :: undef :: (.pointer none) :: (.int .i64 (N : Int)) :: (.pointer (some ⟨gt_, 0, none⟩)) :: ((J17 9)) :: (.pointer (some ⟨g28, 0, none⟩)) :: (.int .i64 (rdI xs 0)) :: (.bool true) :: undef :: (.int .i64 (rdI (idxs (keys false arcs) (rdI xs 0)) q)) :: (.pointer (some ⟨g51, 0, none⟩)) :: (.bool true) :: (.pointer (some ⟨g, 0, none⟩)) :: (.int .i64 (N : Int)) :: ((u2 19)) :: ((u2 20)) :: ((u2 21)) :: ((u2 22)) :: ((u2 23)) :: ((u2 24)) :: ((u2 25)) :: (.int .i64 (N : Int)) :: (.int .i64 w) :: (.bool false) :: ((J17 29)) :: ((J17 30)) :: ((J17 31)) :: ((J17 32)) :: ((J17 33)) :: ((J17 34)) :: ((J17 35)) :: ((J17 36)) :: ((J17 37)) :: ((J17 38)) :: ((J17 39)) :: ((J17 40)) :: ((J17 41)) :: ((J17 42)) :: (.int .i64 v) :: (.bool false) :: (.bool false) :: (.int .i64 v) :: (.int .i64 (N : Int)) :: (.bool false) :: (.bool false) :: undef :: (.pointer (some ⟨gt_, 0, none⟩)) :: (.pointer (some ⟨gt_, 0, none⟩)) :: (.pointer (some ⟨gt_, 1, none⟩)) :: (.slice (some ⟨gd_, 0, none⟩) N N) :: (.int .i64 v) :: (.pointer (some ⟨gd_, v.toNat, none⟩)) :: (.int .i64 v) :: (.slice (some ⟨g30, 0, none⟩) 1 1) :: (.tuple #[]) :: (.int .i64 (nq : Int)) :: (.bool true) :: (.tuple #[.int .i64 (rdI xs 0), .bool true]) :: (.tuple #[.int .i64 (rdI xs 0), .bool true]) :: (.int .i64 (rdI xs 0)) :: (.bool true) :: (.pointer none) :: (.tuple #[]) :: (.pointer (some ⟨g, 0, none⟩)) :: (.int .i64 (rdI xs 0)) :: (.slice (some ⟨g48, 0, none⟩) ((idxs (keys false arcs) (rdI xs 0)).length) c42) :: (.int .i64 ((idxs (keys false arcs) (rdI xs 0)).length : Int)) :: (.int .i64 (q + 1)) :: (.bool true) :: (.pointer (some ⟨g48, q.toNat, none⟩)) :: (.int .i64 (rdI (idxs (keys false arcs) (rdI xs 0)) q)) :: (.pointer none) :: (.tuple #[]) :: (.tuple #[.agg #[.int .i64 ((gx arcs (rdI (idxs (keys false arcs) (rdI xs 0)) q)).1), .int .i64 ((gx arcs (rdI (idxs (keys false arcs) (rdI xs 0)) q)).2)], .bool true]) :: (.pointer (some ⟨g, 0, none⟩)) :: (.int .i64 (rdI (idxs (keys false arcs) (rdI xs 0)) q)) :: (.tuple #[.agg #[.int .i64 ((gx arcs (rdI (idxs (keys false arcs) (rdI xs 0)) q)).1), .int .i64 ((gx arcs (rdI (idxs (keys false arcs) (rdI xs 0)) q)).2)], .bool true]) :: (.agg #[.int .i64 ((gx arcs (rdI (idxs (keys false arcs) (rdI xs 0)) q)).1), .int .i64 ((gx arcs (rdI (idxs (keys false arcs) (rdI xs 0)) q)).2)]) :: (.bool true) :: (.bool false) :: (.pointer (some ⟨gt_, 0, none⟩)) :: (.pointer (some ⟨gt_, 0, none⟩)) :: (.pointer (some ⟨gt_, 1, none⟩)) :: (.slice (some ⟨gd_, 0, none⟩) N N) :: (.pointer (some ⟨g51, 1, none⟩)) :: (.int .i64 ((gx arcs (rdI (idxs (keys false arcs) (rdI xs 0)) q)).2)) :: (.pointer (some ⟨gd_, ((gx arcs (rdI (idxs (keys false arcs) (rdI xs 0)) q)).2).toNat, none⟩)) :: (.int .i64 (rdI ds2 ((gx arcs (rdI (idxs (keys false arcs) (rdI xs 0)) q)).2))) :: (.bool false) :: ((J44 94)) :: ((J44 95)) :: ((J44 96)) :: ((J44 97)) :: ((J44 98)) :: ((J44 99)) :: ((J44 100)) :: ((J44 101)) :: ((J44 102)) :: ((J44 103)) :: ((J44 104)) :: ((J44 105)) :: ((J44 106)) :: ((J44 107)) :: ((J44 108)) :: ((J44 109)) :: ((J44 110)) :: ((J44 111)) :: ((J44 112)) :: ((J44 113)) :: ((J44 114)) :: ((J44 115)) :: ((J44 116)) :: ((J44 117)) :: ((J44 118)) :: ((J44 119)) :: ((J44 120)) :: (.bool true) :: (.pointer (some ⟨gt_, 0, none⟩)) :: (.pointer (some ⟨gt_, 0, none⟩)) :: (.pointer (some ⟨gt_, 1, none⟩)) :: (.slice (some ⟨gd_, 0, none⟩) N N) :: (.pointer (some ⟨g51, 1, none⟩)) :: (.int .i64 ((gx arcs (rdI (idxs (keys false arcs) (rdI xs 0)) q)).2)) :: (.pointer (some ⟨gd_, ((gx arcs (rdI (idxs (keys false arcs) (rdI xs 0)) q)).2).toNat, none⟩)) :: (.int .i64 (rdI ds2 ((gx arcs (rdI (idxs (keys false arcs) (rdI xs 0)) q)).2))) :: (.pointer (some ⟨gt_, 0, none⟩)) :: (.pointer (some ⟨gt_, 0, none⟩)) :: (.pointer (some ⟨gt_, 1, none⟩)) :: (.slice (some ⟨gd_, 0, none⟩) N N) :: (.int .i64 (rdI xs 0)) :: (.pointer (some ⟨gd_, (rdI xs 0).toNat, none⟩)) :: (.int .i64 (rdI ds2 (rdI xs 0))) :: (.int .i64 ((rdI ds2 (rdI xs 0)) + 1)) :: (.bool true) :: (.pointer (some ⟨gt_, 0, none⟩)) :: (.pointer (some ⟨gt_, 0, none⟩)) :: (.pointer (some ⟨gt_, 2, none⟩)) :: (.slice (some ⟨gb_, 0, none⟩) N N) :: (.pointer (some ⟨g51, 1, none⟩)) :: (.int .i64 ((gx arcs (rdI (idxs (keys false arcs) (rdI xs 0)) q)).2)) :: (.pointer (some ⟨gt_, 0, none⟩)) :: (.pointer (some ⟨gt_, 0, none⟩)) :: (.pointer (some ⟨gt_, 2, none⟩)) :: (.slice (some ⟨gb_, 0, none⟩) N N) :: (.pointer (some ⟨g51, 1, none⟩)) :: (.int .i64 ((gx arcs (rdI (idxs (keys false arcs) (rdI xs 0)) q)).2)) :: (.pointer (some ⟨gb_, ((gx arcs (rdI (idxs (keys false arcs) (rdI xs 0)) q)).2).toNat, none⟩)) :: (.int .i64 (rdI bs2 ((gx arcs (rdI (idxs (keys false arcs) (rdI xs 0)) q)).2))) :: (.int .i64 (rdI (idxs (keys false arcs) (rdI xs 0)) q)) :: (.int .i64 (min (rdI bs2 ((gx arcs (rdI (idxs (keys false arcs) (rdI xs 0)) q)).2)) (rdI (idxs (keys false arcs) (rdI xs 0)) q))) :: (.pointer (some ⟨gb_, ((gx arcs (rdI (idxs (keys false arcs) (rdI xs 0)) q)).2).toNat, none⟩)) :: (.int .i64 (q + 1)) :: undef :: []) k_ undef), q + 1, A2, c2, f2, n2, q2, xs2, ds2, xs69, ((rdI (idxs (keys false arcs) (rdI xs 0)) q) :: G2), (k2 + 1), congrArg Fr (by kernel_rfl), rfl, by omega, by omega, hst.1, hst.2, hr2, hm2, by omega, by omega, HS⟩
            · skip
              refine qs (.bool false) (by kernel_rfl) (R_beq (b := (rdI ds2 ((gx arcs (rdI (idxs (keys false arcs) (rdI xs 0)) q)).2) == (rdI ds2 (rdI xs 0)) + 1)) (by kernel_rfl) (beq_f (hc66))) ?_
              refine wpStill_nil ?_
              refine ql (.bool false) (by kernel_rfl) (by kernel_rfl) ?_
              refine wpList_nil ?_
              refine x_then ?_
              refine wp_cond_false (by kernel_rfl) ?_
              refine wp_skip ?_
              refine x_inb ?_
              refine x_inb ?_
              refine x_then ?_
              refine wp_region_lit ?_
              refine ql (.int .i64 (q + 1)) (by kernel_rfl) (R_int (by kernel_rfl) (w64 (by omega))) ?_
              refine ql (.int .i64 (q + 1)) (by kernel_rfl) (by kernel_rfl) ?_
              refine wpList_nil ?_
              replace HS := HS.drop1
              have hst := bq_old hF hB2 hJ q0 (by omega) rfl hc55 hc66
              refine x_then ?_
              exact ⟨(idxs (keys false arcs) (rdI xs 0)).length - (q + 1).toNat, by omega, (fun k_ : Nat => List.getD ((.pointer (some ⟨g, 0, none⟩)) :: (.int .i64 v) :: (.pointer none) :: undef :: undef :: undef :: (.pointer none) :: (.int .i64 (N : Int)) :: (.pointer (some ⟨gt_, 0, none⟩)) :: ((J17 9)) :: (.pointer (some ⟨g28, 0, none⟩)) :: (.int .i64 (rdI xs 0)) :: (.bool true) :: undef :: (.int .i64 (rdI (idxs (keys false arcs) (rdI xs 0)) q)) :: (.pointer (some ⟨g51, 0, none⟩)) :: (.bool true) :: (.pointer (some ⟨g, 0, none⟩)) :: (.int .i64 (N : Int)) :: ((u2 19)) :: ((u2 20)) :: ((u2 21)) :: ((u2 22)) :: ((u2 23)) :: ((u2 24)) :: ((u2 25)) :: (.int .i64 (N : Int)) :: (.int .i64 w) :: (.bool false) :: ((J17 29)) :: ((J17 30)) :: ((J17 31)) :: ((J17 32)) :: ((J17 33)) :: ((J17 34)) :: ((J17 35)) :: ((J17 36)) :: ((J17 37)) :: ((J17 38)) :: ((J17 39)) :: ((J17 40)) :: ((J17 41)) :: ((J17 42)) :: (.int .i64 v) :: (.bool false) :: (.bool false) :: (.int .i64 v) :: (.int .i64 (N : Int)) :: (.bool false) :: (.bool false) :: undef :: (.pointer (some ⟨gt_, 0, none⟩)) :: (.pointer (some ⟨gt_, 0, none⟩)) :: (.pointer (some ⟨gt_, 1, none⟩)) :: (.slice (some ⟨gd_, 0, none⟩) N N) :: (.int .i64 v) :: (.pointer (some ⟨gd_, v.toNat, none⟩)) :: (.int .i64 v) :: (.slice (some ⟨g30, 0, none⟩) 1 1) :: (.tuple #[]) :: (.int .i64 (nq : Int)) :: (.bool true) :: (.tuple #[.int .i64 (rdI xs 0), .bool true]) :: (.tuple #[.int .i64 (rdI xs 0), .bool true]) :: (.int .i64 (rdI xs 0)) :: (.bool true) :: (.pointer none) :: (.tuple #[]) :: (.pointer (some ⟨g, 0, none⟩)) :: (.int .i64 (rdI xs 0)) :: (.slice (some ⟨g48, 0, none⟩) ((idxs (keys false arcs) (rdI xs 0)).length) c42) :: (.int .i64 ((idxs (keys false arcs) (rdI xs 0)).length : Int)) :: (.int .i64 (q + 1)) :: (.bool true) :: (.pointer (some ⟨g48, q.toNat, none⟩)) :: (.int .i64 (rdI (idxs (keys false arcs) (rdI xs 0)) q)) :: (.pointer none) :: (.tuple #[]) :: (.tuple #[.agg #[.int .i64 ((gx arcs (rdI (idxs (keys false arcs) (rdI xs 0)) q)).1), .int .i64 ((gx arcs (rdI (idxs (keys false arcs) (rdI xs 0)) q)).2)], .bool true]) :: (.pointer (some ⟨g, 0, none⟩)) :: (.int .i64 (rdI (idxs (keys false arcs) (rdI xs 0)) q)) :: (.tuple #[.agg #[.int .i64 ((gx arcs (rdI (idxs (keys false arcs) (rdI xs 0)) q)).1), .int .i64 ((gx arcs (rdI (idxs (keys false arcs) (rdI xs 0)) q)).2)], .bool true]) :: (.agg #[.int .i64 ((gx arcs (rdI (idxs (keys false arcs) (rdI xs 0)) q)).1), .int .i64 ((gx arcs (rdI (idxs (keys false arcs) (rdI xs 0)) q)).2)]) :: (.bool true) :: (.bool false) :: (.pointer (some ⟨gt_, 0, none⟩)) :: (.pointer (some ⟨gt_, 0, none⟩)) :: (.pointer (some ⟨gt_, 1, none⟩)) :: (.slice (some ⟨gd_, 0, none⟩) N N) :: (.pointer (some ⟨g51, 1, none⟩)) :: (.int .i64 ((gx arcs (rdI (idxs (keys false arcs) (rdI xs 0)) q)).2)) :: (.pointer (some ⟨gd_, ((gx arcs (rdI (idxs (keys false arcs) (rdI xs 0)) q)).2).toNat, none⟩)) :: (.int .i64 (rdI ds2 ((gx arcs (rdI (idxs (keys false arcs) (rdI xs 0)) q)).2))) :: (.bool false) :: ((J44 94)) :: ((J44 95)) :: ((J44 96)) :: ((J44 97)) :: ((J44 98)) :: ((J44 99)) :: ((J44 100)) :: ((J44 101)) :: ((J44 102)) :: ((J44 103)) :: ((J44 104)) :: ((J44 105)) :: ((J44 106)) :: ((J44 107)) :: ((J44 108)) :: ((J44 109)) :: ((J44 110)) :: ((J44 111)) :: ((J44 112)) :: ((J44 113)) :: ((J44 114)) :: ((J44 115)) :: ((J44 116)) :: ((J44 117)) :: ((J44 118)) :: ((J44 119)) :: ((J44 120)) :: (.bool false) :: (.pointer (some ⟨gt_, 0, none⟩)) :: (.pointer (some ⟨gt_, 0, none⟩)) :: (.pointer (some ⟨gt_, 1, none⟩)) :: (.slice (some ⟨gd_, 0, none⟩) N N) :: (.pointer (some ⟨g51, 1, none⟩)) :: (.int .i64 ((gx arcs (rdI (idxs (keys false arcs) (rdI xs 0)) q)).2)) :: (.pointer (some ⟨gd_, ((gx arcs (rdI (idxs (keys false arcs) (rdI xs 0)) q)).2).toNat, none⟩)) :: (.int .i64 (rdI ds2 ((gx arcs (rdI (idxs (keys false arcs) (rdI xs 0)) q)).2))) :: (.pointer (some ⟨gt_, 0, none⟩)) :: (.pointer (some ⟨gt_, 0, none⟩)) :: (.pointer (some ⟨gt_, 1, none⟩)) :: (.slice (some ⟨gd_, 0, none⟩) N N) :: (.int .i64 (rdI xs 0)) :: (.pointer (some ⟨gd_, (rdI xs 0).toNat, none⟩)) :: (.int .i64 (rdI ds2 (rdI xs 0))) :: (.int .i64 ((rdI ds2 (rdI xs 0)) + 1)) :: (.bool false) :: ((J44 139)) :: ((J44 140)) :: ((J44 141)) :: ((J44 142)) :: ((J44 143)) :: ((J44 144)) :: ((J44 145)) :: ((J44 146)) :: ((J44 147)) :: ((J44 148)) :: ((J44 149)) :: ((J44 150)) :: ((J44 151)) :: ((J44 152)) :: ((J44 153)) :: ((J44 154)) :: ((J44 155)) :: (.int .i64 (q + 1)) :: undef :: []) k_ undef), q + 1, A2, c2, f2, n2, q2, xs2, ds2, bs2, ((rdI (idxs (keys false arcs) (rdI xs 0)) q) :: G2), (k2 + 1), congrArg Fr (by kernel_rfl), rfl, by omega, by omega, hst.1, hst.2, hr2, hm2, by omega, by omega, HS⟩
        · skip
          refine ql (.bool false) (by kernel_rfl) (R_nbool (p := q < ((idxs (keys false arcs) (rdI xs 0)).length : Int)) (by kernel_rfl) (hc47)) ?_
          refine wpList_nil ?_
          refine x_then ?_
          refine wp_seq ?_
          refine wp_cond_false (by kernel_rfl) ?_
          refine wp_exit ?_
          refine x_thenE ?_
          refine x_thenE ?_
          refine x_hit ?_
          refine x_inb ?_
          replace HS := HS.drop1
          have hQ9 := qj_end hJ (by omega)
          refine x_then ?_
          exact ⟨(xs2).length + ng ds2, by omega, (fun k_ : Nat => List.getD ((.pointer (some ⟨g, 0, none⟩)) :: (.int .i64 v) :: (.pointer none) :: undef :: undef :: undef :: (.pointer none) :: (.int .i64 (N : Int)) :: (.pointer (some ⟨gt_, 0, none⟩)) :: ((J17 9)) :: (.pointer (some ⟨g28, 0, none⟩)) :: (.int .i64 (rdI xs 0)) :: (.bool true) :: undef :: ((J44 14)) :: ((J44 15)) :: ((J44 16)) :: (.pointer (some ⟨g, 0, none⟩)) :: (.int .i64 (N : Int)) :: ((u2 19)) :: ((u2 20)) :: ((u2 21)) :: ((u2 22)) :: ((u2 23)) :: ((u2 24)) :: ((u2 25)) :: (.int .i64 (N : Int)) :: (.int .i64 w) :: (.bool false) :: ((J17 29)) :: ((J17 30)) :: ((J17 31)) :: ((J17 32)) :: ((J17 33)) :: ((J17 34)) :: ((J17 35)) :: ((J17 36)) :: ((J17 37)) :: ((J17 38)) :: ((J17 39)) :: ((J17 40)) :: ((J17 41)) :: ((J17 42)) :: (.int .i64 v) :: (.bool false) :: (.bool false) :: (.int .i64 v) :: (.int .i64 (N : Int)) :: (.bool false) :: (.bool false) :: undef :: (.pointer (some ⟨gt_, 0, none⟩)) :: (.pointer (some ⟨gt_, 0, none⟩)) :: (.pointer (some ⟨gt_, 1, none⟩)) :: (.slice (some ⟨gd_, 0, none⟩) N N) :: (.int .i64 v) :: (.pointer (some ⟨gd_, v.toNat, none⟩)) :: (.int .i64 v) :: (.slice (some ⟨g30, 0, none⟩) 1 1) :: (.tuple #[]) :: (.int .i64 (nq : Int)) :: (.bool true) :: (.tuple #[.int .i64 (rdI xs 0), .bool true]) :: (.tuple #[.int .i64 (rdI xs 0), .bool true]) :: (.int .i64 (rdI xs 0)) :: (.bool true) :: (.pointer none) :: (.tuple #[]) :: (.pointer (some ⟨g, 0, none⟩)) :: (.int .i64 (rdI xs 0)) :: (.slice A41 ((idxs (keys false arcs) (rdI xs 0)).length) c42) :: (.int .i64 ((idxs (keys false arcs) (rdI xs 0)).length : Int)) :: (.int .i64 q) :: (.bool false) :: ((J44 74)) :: ((J44 75)) :: ((J44 76)) :: ((J44 77)) :: ((J44 78)) :: ((J44 79)) :: ((J44 80)) :: ((J44 81)) :: ((J44 82)) :: ((J44 83)) :: ((J44 84)) :: ((J44 85)) :: ((J44 86)) :: ((J44 87)) :: ((J44 88)) :: ((J44 89)) :: ((J44 90)) :: ((J44 91)) :: ((J44 92)) :: ((J44 93)) :: ((J44 94)) :: ((J44 95)) :: ((J44 96)) :: ((J44 97)) :: ((J44 98)) :: ((J44 99)) :: ((J44 100)) :: ((J44 101)) :: ((J44 102)) :: ((J44 103)) :: ((J44 104)) :: ((J44 105)) :: ((J44 106)) :: ((J44 107)) :: ((J44 108)) :: ((J44 109)) :: ((J44 110)) :: ((J44 111)) :: ((J44 112)) :: ((J44 113)) :: ((J44 114)) :: ((J44 115)) :: ((J44 116)) :: ((J44 117)) :: ((J44 118)) :: ((J44 119)) :: ((J44 120)) :: ((J44 121)) :: ((J44 122)) :: ((J44 123)) :: ((J44 124)) :: ((J44 125)) :: ((J44 126)) :: ((J44 127)) :: ((J44 128)) :: ((J44 129)) :: ((J44 130)) :: ((J44 131)) :: ((J44 132)) :: ((J44 133)) :: ((J44 134)) :: ((J44 135)) :: ((J44 136)) :: ((J44 137)) :: ((J44 138)) :: ((J44 139)) :: ((J44 140)) :: ((J44 141)) :: ((J44 142)) :: ((J44 143)) :: ((J44 144)) :: ((J44 145)) :: ((J44 146)) :: ((J44 147)) :: ((J44 148)) :: ((J44 149)) :: ((J44 150)) :: ((J44 151)) :: ((J44 152)) :: ((J44 153)) :: ((J44 154)) :: ((J44 155)) :: ((J44 156)) :: undef :: []) k_ undef), A2, c2, f2, n2, q2, xs2, ds2, bs2, G2, k2, congrArg Fr (by kernel_rfl), rfl, hB2, hQ9, hr2, hdl2, hbl2, HS⟩
      · skip
        refine ql (.bool false) (by kernel_rfl) (R_nbool (p := (nq : Int) > (0 : Int)) (by kernel_rfl) (hc38)) ?_
        refine wpList_nil ?_
        refine x_then ?_
        refine wp_cond_false (by kernel_rfl) ?_
        refine wp_exit ?_
        refine x_thenE ?_
        refine x_thenE ?_
        refine x_hit ?_
        refine x_then ?_
        refine wp_seq ?_
        refine wp_region_lit ?_
        refine ql (.pointer (some ⟨gt_, 0, none⟩)) (by kernel_rfl) (by kernel_rfl) ?_
        refine ql (.pointer (some ⟨gt_, 0, none⟩)) (by kernel_rfl) (by kernel_rfl) ?_
        refine wpList_nil ?_
        refine x_then ?_
        refine wp_ret ?_
        refine ret_ (.pointer (some ⟨gt_, 0, none⟩)) (by kernel_rfl) ?_
        replace HS := HS.drop1
        replace HS := HS.drop1
        have hxl := hr.len
        have hdn := bq_done hB hQ (by omega)
        exact ⟨_, _, _, _, _, _, _, rfl, HS, hdn.1, hdn.2⟩

set_option maxRecDepth 100000 in
set_option maxHeartbeats 1000000 in
theorem from_no (g N : Nat) (arcs : List (Int × Int)) (v : Int) (W : World) (hG : GAt W g N arcs) (hN : N ≤ 1048576) (hm : arcs.length ≤ 67108864) (hv : ¬ (0 ≤ v ∧ v < N)) : Calls Try.prog 30 #[.pointer (some ⟨g, 0, none⟩), .int .i64 v, .pointer none] W fun e W' => ∃ (t : Nat) (D B : Option Addr) (cd cb : Nat) (ds bs : List Int), e = .returned (.pointer (some ⟨t, 0, none⟩)) ∧ St W (owns []) W' [blk t [.int .i64 v, .slice D N cd, .slice B N cb] 72, row D N cd (ci .i64 ds) 3 1, row B N cb (ci .i64 bs) 3 1] ∧ DS N arcs v ds ∧ BK N arcs ds bs := by
  have HS : St W (owns []) W [] := St.start W _
  have hF := hG.fine
  refine calls_enter ((.pointer (some ⟨g, 0, none⟩)) :: (.int .i64 v) :: (.pointer none) :: undef :: undef :: undef :: undef :: undef :: undef :: undef :: undef :: undef :: undef :: undef :: undef :: undef :: undef :: undef :: undef :: undef :: undef :: undef :: undef :: undef :: undef :: undef :: undef :: undef :: undef :: undef :: undef :: undef :: undef :: undef :: undef :: undef :: undef :: undef :: undef :: undef :: undef :: undef :: undef :: undef :: undef :: undef :: undef :: undef :: undef :: undef :: undef :: undef :: undef :: undef :: undef :: undef :: undef :: undef :: undef :: undef :: undef :: undef :: undef :: undef :: undef :: undef :: undef :: undef :: undef :: undef :: undef :: undef :: undef :: undef :: undef :: undef :: undef :: undef :: undef :: undef :: undef :: undef :: undef :: undef :: undef :: undef :: undef :: undef :: undef :: undef :: undef :: undef :: undef :: undef :: undef :: undef :: undef :: undef :: undef :: undef :: undef :: undef :: undef :: undef :: undef :: undef :: undef :: undef :: undef :: undef :: undef :: undef :: undef :: undef :: undef :: undef :: undef :: undef :: undef :: undef :: undef :: undef :: undef :: undef :: undef :: undef :: undef :: undef :: undef :: undef :: undef :: undef :: undef :: undef :: undef :: undef :: undef :: undef :: undef :: undef :: undef :: undef :: undef :: undef :: undef :: undef :: undef :: undef :: undef :: undef :: undef :: undef :: undef :: undef :: undef :: undef :: undef :: undef :: []) Try.func30 rfl (by kernel_rfl) ?_
  refine wp_seq ?_
  refine wp_region_lit ?_
  refine ql (.pointer none) (by kernel_rfl) (by kernel_rfl) ?_
  refine wpList_nil ?_
  refine x_then ?_
  refine wp_seq ?_
  refine wp_region_lit ?_
  refine ql (.pointer (some ⟨g, 0, none⟩)) (by kernel_rfl) (by kernel_rfl) ?_
  refine qc (f := 17) (args := #[.pointer (some ⟨g, 0, none⟩)]) (by kernel_rfl) (R_call #[.pointer (some ⟨g, 0, none⟩)] Try.func17 (by kernel_rfl) (by kernel_rfl) (by kernel_rfl)) ?_
  refine (nodessome g N arcs _ (hG.below (HS.kept.below owns_nil))).mono ?_
  rintro e W1 ⟨rfl, H_⟩
  refine ⟨_, rfl, ?_⟩
  replace HS : St W (owns []) W1 [] := HS.join (F := []) (G := []) H_
  clear H_
  refine ql (.int .i64 (N : Int)) (by kernel_rfl) (by kernel_rfl) ?_
  refine wpList_nil ?_
  refine x_then ?_
  refine wp_seq_cut (fun a' w' => ∃ (u2 : Nat → Value) (gt_ : Nat) (gd_ : Nat) (gb_ : Nat) , a' = Fr ((.pointer (some ⟨g, 0, none⟩)) :: (.int .i64 v) :: (.pointer none) :: undef :: undef :: undef :: (.pointer none) :: (.int .i64 (N : Int)) :: (.pointer (some ⟨gt_, 0, none⟩)) :: undef :: undef :: undef :: undef :: undef :: undef :: undef :: undef :: (.pointer (some ⟨g, 0, none⟩)) :: (.int .i64 (N : Int)) :: ((u2 19)) :: ((u2 20)) :: ((u2 21)) :: ((u2 22)) :: ((u2 23)) :: ((u2 24)) :: ((u2 25)) :: undef :: undef :: undef :: undef :: undef :: undef :: undef :: undef :: undef :: undef :: undef :: undef :: undef :: undef :: undef :: undef :: undef :: undef :: undef :: undef :: undef :: undef :: undef :: undef :: undef :: undef :: undef :: undef :: undef :: undef :: undef :: undef :: undef :: undef :: undef :: undef :: undef :: undef :: undef :: undef :: undef :: undef :: undef :: undef :: undef :: undef :: undef :: undef :: undef :: undef :: undef :: undef :: undef :: undef :: undef :: undef :: undef :: undef :: undef :: undef :: undef :: undef :: undef :: undef :: undef :: undef :: undef :: undef :: undef :: undef :: undef :: undef :: undef :: undef :: undef :: undef :: undef :: undef :: undef :: undef :: undef :: undef :: undef :: undef :: undef :: undef :: undef :: undef :: undef :: undef :: undef :: undef :: undef :: undef :: undef :: undef :: undef :: undef :: undef :: undef :: undef :: undef :: undef :: undef :: undef :: undef :: undef :: undef :: undef :: undef :: undef :: undef :: undef :: undef :: undef :: undef :: undef :: undef :: undef :: undef :: undef :: undef :: undef :: undef :: undef :: undef :: undef :: undef :: undef :: undef :: undef :: undef :: []) ∧ St W (owns []) w' [blk gt_ [.int .i64 v, .slice (some ⟨gd_, 0, none⟩) N N, .slice (some ⟨gb_, 0, none⟩) N N] 72, row (some ⟨gd_, 0, none⟩) N N (ci .i64 (List.replicate N 0)) 3 1, row (some ⟨gb_, 0, none⟩) N N (ci .i64 (List.replicate N 0)) 3 1]) ?_ ?_
  · skip
    refine t_start HS (fun _ => False) 8 (by kernel_rfl) rfl ?_
    intro W3 H_ HD_
    clear HD_
    replace HS : St W (owns []) W3 [] := H_
    clear H_
    have HV := HS
    have HK := Kpt.refl (fun _ => False) W3
    refine t_q (n := 7) 0 (.int .i64 v) rfl (by kernel_rfl) (by kernel_rfl) (fun _ _ _ h => h) (fun w' hk => (by kernel_rfl)) HK ?_
    refine t_q (n := 6) 1 (.int .i64 (N : Int)) rfl (by kernel_rfl) (by kernel_rfl) (fun _ _ _ h => h) (fun w' hk => (by kernel_rfl)) HK ?_
    refine t_q (n := 5) 3 (.int .i64 (N : Int)) rfl (by kernel_rfl) (by kernel_rfl) (fun _ _ _ h => h) (fun w' hk => (by kernel_rfl)) HK ?_
    refine t_pick2 (n := 4) 2 4 (by kernel_rfl) ?_ ?_
    · skip
      obtain ⟨g4, W5, hrun_, H_, hk_⟩ := ex_make (P := Try.prog) (ty := 28) (ps := "bfs.go:20") (af := #[{ on := 1, ground := Go.Ground.data }, { on := 1, ground := Go.Ground.data }]) (gd := none) (dst := some 21) (t := 28) (x := (Go.Operand.tmp 20)) (y := (Go.Operand.tmp 20)) (k1 := .i64) (k2 := .i64) HS (N) [.int .i64 0] 8 (k_eq (m := (N : Int)) (by kernel_rfl) (by omega)) (k_eq (m := (N : Int)) (by kernel_rfl) (by omega)) Try.underlying28 (by kernel_rfl) (by kernel_rfl) (by kernel_rfl) (by decide) (by omega) (by omega)
      refine t_e2 (n := 4) 2 (.slice (some ⟨g4, 0, none⟩) N N) rfl (by kernel_rfl) hrun_ (HK.tr hk_) ?_
      replace HK := HK.tr hk_
      clear hk_
      clear hrun_
      replace HS : St W (owns []) W5 [row (some ⟨g4, 0, none⟩) N N (ci .i64 (List.replicate (N) 0)) 3 1] := H_.cast_ (by rw [ci_rep]; rfl)
      clear H_
      have rlg4 : (List.replicate (N) (0 : Int)).length = N := List.length_replicate
      obtain ⟨g6, W7, hrun_, H_, hk_⟩ := ex_make (P := Try.prog) (ty := 28) (ps := "bfs.go:20") (af := #[{ on := 3, ground := Go.Ground.data }, { on := 3, ground := Go.Ground.data }]) (gd := none) (dst := some 23) (t := 28) (x := (Go.Operand.tmp 22)) (y := (Go.Operand.tmp 22)) (k1 := .i64) (k2 := .i64) HS (N) [.int .i64 0] 8 (k_eq (m := (N : Int)) (by kernel_rfl) (by omega)) (k_eq (m := (N : Int)) (by kernel_rfl) (by omega)) Try.underlying28 (by kernel_rfl) (by kernel_rfl) (by kernel_rfl) (by decide) (by omega) (by omega)
      refine t_e (n := 3) 4 (.slice (some ⟨g6, 0, none⟩) N N) rfl (by kernel_rfl) (by kernel_rfl) hrun_ (HK.tr hk_) ?_
      replace HK := HK.tr hk_
      clear hk_
      clear hrun_
      replace HS : St W (owns []) W7 [row (some ⟨g6, 0, none⟩) N N (ci .i64 (List.replicate (N) 0)) 3 1, row (some ⟨g4, 0, none⟩) N N (ci .i64 (List.replicate (N) 0)) 3 1] := H_.cast_ (by rw [ci_rep]; rfl)
      clear H_
      have rlg6 : (List.replicate (N) (0 : Int)).length = N := List.length_replicate
      refine t_q (n := 2) 5 (.agg #[.int .i64 v, .slice (some ⟨g4, 0, none⟩) N N, .slice (some ⟨g6, 0, none⟩) N N]) rfl (by kernel_rfl) (by kernel_rfl) (fun _ _ _ h => h) (fun w' hk => (by kernel_rfl)) HK ?_
      obtain ⟨g8, W9, hg_, hw_, H_, hk_⟩ := ex_blk HS [.int .i64 v, .slice (some ⟨g4, 0, none⟩) N N, .slice (some ⟨g6, 0, none⟩) N N] 72
      refine t_e (n := 1) 6 (.pointer (some ⟨g8, 0, none⟩)) rfl (by kernel_rfl) (by kernel_rfl) (by subst hg_; subst hw_; kernel_rfl) (HK.tr hk_) ?_
      replace HK := HK.tr hk_
      clear hk_
      clear hg_ hw_
      replace HS : St W (owns []) W9 [blk g8 [.int .i64 v, .slice (some ⟨g4, 0, none⟩) N N, .slice (some ⟨g6, 0, none⟩) N N] 72, row (some ⟨g6, 0, none⟩) N N (ci .i64 (List.replicate (N) 0)) 3 1, row (some ⟨g4, 0, none⟩) N N (ci .i64 (List.replicate (N) 0)) 3 1] := H_
      clear H_
      refine t_q (n := 0) 7 (.pointer (some ⟨g8, 0, none⟩)) rfl (by kernel_rfl) (by kernel_rfl) (fun _ _ _ h => h) (fun w' hk => (by kernel_rfl)) HK ?_
      refine t_done (by kernel_rfl) ?_
      clear HV HK
      replace HS : St W (owns []) W9 [blk g8 [.int .i64 v, .slice (some ⟨g4, 0, none⟩) N N, .slice (some ⟨g6, 0, none⟩) N N] 72, row (some ⟨g4, 0, none⟩) N N (ci .i64 (List.replicate (N) 0)) 3 1, row (some ⟨g6, 0, none⟩) N N (ci .i64 (List.replicate (N) 0)) 3 1] := HS.perm (perm_ [0, 2, 1] (by kernel_rfl) rfl)
      refine x_then ?_
      exact ⟨(fun k_ : Nat => List.getD ((.pointer (some ⟨g, 0, none⟩)) :: (.int .i64 v) :: (.pointer none) :: undef :: undef :: undef :: (.pointer none) :: (.int .i64 (N : Int)) :: (.pointer (some ⟨g8, 0, none⟩)) :: undef :: undef :: undef :: undef :: undef :: undef :: undef :: undef :: (.pointer (some ⟨g, 0, none⟩)) :: (.int .i64 (N : Int)) :: (.int .i64 v) :: (.int .i64 (N : Int)) :: (.slice (some ⟨g4, 0, none⟩) N N) :: (.int .i64 (N : Int)) :: (.slice (some ⟨g6, 0, none⟩) N N) :: (.agg #[.int .i64 v, .slice (some ⟨g4, 0, none⟩) N N, .slice (some ⟨g6, 0, none⟩) N N]) :: (.pointer (some ⟨g8, 0, none⟩)) :: undef :: undef :: undef :: undef :: undef :: undef :: undef :: undef :: undef :: undef :: undef :: undef :: undef :: undef :: undef :: undef :: undef :: undef :: undef :: undef :: undef :: undef :: undef :: undef :: undef :: undef :: undef :: undef :: undef :: undef :: undef :: undef :: undef :: undef :: undef :: undef :: undef :: undef :: undef :: undef :: undef :: undef :: undef :: undef :: undef :: undef :: undef :: undef :: undef :: undef :: undef :: undef :: undef :: undef :: undef :: undef :: undef :: undef :: undef :: undef :: undef :: undef :: undef :: undef :: undef :: undef :: undef :: undef :: undef :: undef :: undef :: undef :: undef :: undef :: undef :: undef :: undef :: undef :: undef :: undef :: undef :: undef :: undef :: undef :: undef :: undef :: undef :: undef :: undef :: undef :: undef :: undef :: undef :: undef :: undef :: undef :: undef :: undef :: undef :: undef :: undef :: undef :: undef :: undef :: undef :: undef :: undef :: undef :: undef :: undef :: undef :: undef :: undef :: undef :: undef :: undef :: undef :: undef :: undef :: undef :: undef :: undef :: undef :: undef :: undef :: undef :: undef :: undef :: undef :: undef :: undef :: undef :: []) k_ undef), g8, g4, g6, congrArg Fr (by kernel_rfl), HS⟩
    · skip
      obtain ⟨g10, W11, hrun_, H_, hk_⟩ := ex_make (P := Try.prog) (ty := 28) (ps := "bfs.go:20") (af := #[{ on := 3, ground := Go.Ground.data }, { on := 3, ground := Go.Ground.data }]) (gd := none) (dst := some 23) (t := 28) (x := (Go.Operand.tmp 22)) (y := (Go.Operand.tmp 22)) (k1 := .i64) (k2 := .i64) HS (N) [.int .i64 0] 8 (k_eq (m := (N : Int)) (by kernel_rfl) (by omega)) (k_eq (m := (N : Int)) (by kernel_rfl) (by omega)) Try.underlying28 (by kernel_rfl) (by kernel_rfl) (by kernel_rfl) (by decide) (by omega) (by omega)
      refine t_e2 (n := 4) 4 (.slice (some ⟨g10, 0, none⟩) N N) rfl (by kernel_rfl) hrun_ (HK.tr hk_) ?_
      replace HK := HK.tr hk_
      clear hk_
      clear hrun_
      replace HS : St W (owns []) W11 [row (some ⟨g10, 0, none⟩) N N (ci .i64 (List.replicate (N) 0)) 3 1] := H_.cast_ (by rw [ci_rep]; rfl)
      clear H_
      have rlg10 : (List.replicate (N) (0 : Int)).length = N := List.length_replicate
      obtain ⟨g12, W13, hrun_, H_, hk_⟩ := ex_make (P := Try.prog) (ty := 28) (ps := "bfs.go:20") (af := #[{ on := 1, ground := Go.Ground.data }, { on := 1, ground := Go.Ground.data }]) (gd := none) (dst := some 21) (t := 28) (x := (Go.Operand.tmp 20)) (y := (Go.Operand.tmp 20)) (k1 := .i64) (k2 := .i64) HS (N) [.int .i64 0] 8 (k_eq (m := (N : Int)) (by kernel_rfl) (by omega)) (k_eq (m := (N : Int)) (by kernel_rfl) (by omega)) Try.underlying28 (by kernel_rfl) (by kernel_rfl) (by kernel_rfl) (by decide) (by omega) (by omega)
      refine t_e (n := 3) 2 (.slice (some ⟨g12, 0, none⟩) N N) rfl (by kernel_rfl) (by kernel_rfl) hrun_ (HK.tr hk_) ?_
      replace HK := HK.tr hk_
      clear hk_
      clear hrun_
      replace HS : St W (owns []) W13 [row (some ⟨g12, 0, none⟩) N N (ci .i64 (List.replicate (N) 0)) 3 1, row (some ⟨g10, 0, none⟩) N N (ci .i64 (List.replicate (N) 0)) 3 1] := H_.cast_ (by rw [ci_rep]; rfl)
      clear H_
      have rlg12 : (List.replicate (N) (0 : Int)).length = N := List.length_replicate
      refine t_q (n := 2) 5 (.agg #[.int .i64 v, .slice (some ⟨g12, 0, none⟩) N N, .slice (some ⟨g10, 0, none⟩) N N]) rfl (by kernel_rfl) (by kernel_rfl) (fun _ _ _ h => h) (fun w' hk => (by kernel_rfl)) HK ?_
      obtain ⟨g14, W15, hg_, hw_, H_, hk_⟩ := ex_blk HS [.int .i64 v, .slice (some ⟨g12, 0, none⟩) N N, .slice (some ⟨g10, 0, none⟩) N N] 72
      refine t_e (n := 1) 6 (.pointer (some ⟨g14, 0, none⟩)) rfl (by kernel_rfl) (by kernel_rfl) (by subst hg_; subst hw_; kernel_rfl) (HK.tr hk_) ?_
      replace HK := HK.tr hk_
      clear hk_
      clear hg_ hw_
      replace HS : St W (owns []) W15 [blk g14 [.int .i64 v, .slice (some ⟨g12, 0, none⟩) N N, .slice (some ⟨g10, 0, none⟩) N N] 72, row (some ⟨g12, 0, none⟩) N N (ci .i64 (List.replicate (N) 0)) 3 1, row (some ⟨g10, 0, none⟩) N N (ci .i64 (List.replicate (N) 0)) 3 1] := H_
      clear H_
      refine t_q (n := 0) 7 (.pointer (some ⟨g14, 0, none⟩)) rfl (by kernel_rfl) (by kernel_rfl) (fun _ _ _ h => h) (fun w' hk => (by kernel_rfl)) HK ?_
      refine t_done (by kernel_rfl) ?_
      clear HV HK
      refine x_then ?_
      exact ⟨(fun k_ : Nat => List.getD ((.pointer (some ⟨g, 0, none⟩)) :: (.int .i64 v) :: (.pointer none) :: undef :: undef :: undef :: (.pointer none) :: (.int .i64 (N : Int)) :: (.pointer (some ⟨g14, 0, none⟩)) :: undef :: undef :: undef :: undef :: undef :: undef :: undef :: undef :: (.pointer (some ⟨g, 0, none⟩)) :: (.int .i64 (N : Int)) :: (.int .i64 v) :: (.int .i64 (N : Int)) :: (.slice (some ⟨g12, 0, none⟩) N N) :: (.int .i64 (N : Int)) :: (.slice (some ⟨g10, 0, none⟩) N N) :: (.agg #[.int .i64 v, .slice (some ⟨g12, 0, none⟩) N N, .slice (some ⟨g10, 0, none⟩) N N]) :: (.pointer (some ⟨g14, 0, none⟩)) :: undef :: undef :: undef :: undef :: undef :: undef :: undef :: undef :: undef :: undef :: undef :: undef :: undef :: undef :: undef :: undef :: undef :: undef :: undef :: undef :: undef :: undef :: undef :: undef :: undef :: undef :: undef :: undef :: undef :: undef :: undef :: undef :: undef :: undef :: undef :: undef :: undef :: undef :: undef :: undef :: undef :: undef :: undef :: undef :: undef :: undef :: undef :: undef :: undef :: undef :: undef :: undef :: undef :: undef :: undef :: undef :: undef :: undef :: undef :: undef :: undef :: undef :: undef :: undef :: undef :: undef :: undef :: undef :: undef :: undef :: undef :: undef :: undef :: undef :: undef :: undef :: undef :: undef :: undef :: undef :: undef :: undef :: undef :: undef :: undef :: undef :: undef :: undef :: undef :: undef :: undef :: undef :: undef :: undef :: undef :: undef :: undef :: undef :: undef :: undef :: undef :: undef :: undef :: undef :: undef :: undef :: undef :: undef :: undef :: undef :: undef :: undef :: undef :: undef :: undef :: undef :: undef :: undef :: undef :: undef :: undef :: undef :: undef :: undef :: undef :: undef :: undef :: undef :: undef :: undef :: undef :: undef :: []) k_ undef), g14, g12, g10, congrArg Fr (by kernel_rfl), HS⟩
  · clear HS
    rintro a' W16 ⟨u2, gt_, gd_, gb_, rfl, HS⟩
    refine wp_seq ?_
    refine wp_seq ?_
    refine wp_region_lit ?_
    refine ql (.int .i64 (N : Int)) (by kernel_rfl) (by kernel_rfl) ?_
    refine ql (.int .i64 0) (by kernel_rfl) (by kernel_rfl) ?_
    refine wpList_nil ?_
    refine x_then ?_
    refine wp_block ?_
    refine wp_loop_ghost (fun kq a' w' => ∃ (J17 : Nat → Value) (w : Int) (ds0 : List Int) (bs0 : List Int) , a' = Fr ((.pointer (some ⟨g, 0, none⟩)) :: (.int .i64 v) :: (.pointer none) :: undef :: undef :: undef :: (.pointer none) :: (.int .i64 (N : Int)) :: (.pointer (some ⟨gt_, 0, none⟩)) :: ((J17 9)) :: undef :: undef :: undef :: undef :: undef :: undef :: undef :: (.pointer (some ⟨g, 0, none⟩)) :: (.int .i64 (N : Int)) :: ((u2 19)) :: ((u2 20)) :: ((u2 21)) :: ((u2 22)) :: ((u2 23)) :: ((u2 24)) :: ((u2 25)) :: (.int .i64 (N : Int)) :: (.int .i64 w) :: ((J17 28)) :: ((J17 29)) :: ((J17 30)) :: ((J17 31)) :: ((J17 32)) :: ((J17 33)) :: ((J17 34)) :: ((J17 35)) :: ((J17 36)) :: ((J17 37)) :: ((J17 38)) :: ((J17 39)) :: ((J17 40)) :: ((J17 41)) :: ((J17 42)) :: undef :: undef :: undef :: undef :: undef :: undef :: undef :: undef :: undef :: undef :: undef :: undef :: undef :: undef :: undef :: undef :: undef :: undef :: undef :: undef :: undef :: undef :: undef :: undef :: undef :: undef :: undef :: undef :: undef :: undef :: undef :: undef :: undef :: undef :: undef :: undef :: undef :: undef :: undef :: undef :: undef :: undef :: undef :: undef :: undef :: undef :: undef :: undef :: undef :: undef :: undef :: undef :: undef :: undef :: undef :: undef :: undef :: undef :: undef :: undef :: undef :: undef :: undef :: undef :: undef :: undef :: undef :: undef :: undef :: undef :: undef :: undef :: undef :: undef :: undef :: undef :: undef :: undef :: undef :: undef :: undef :: undef :: undef :: undef :: undef :: undef :: undef :: undef :: undef :: undef :: undef :: undef :: undef :: undef :: undef :: undef :: undef :: undef :: undef :: undef :: undef :: undef :: undef :: undef :: undef :: undef :: undef :: undef :: undef :: undef :: undef :: undef :: undef :: undef :: undef :: []) ∧ kq = (N - (w).toNat) ∧ (0 ≤ w) ∧ (w ≤ (N : Int)) ∧ (ds0 = List.replicate (w).toNat (-1) ++ List.replicate (N - (w).toNat) 0) ∧ (bs0 = List.replicate (w).toNat (-1) ++ List.replicate (N - (w).toNat) 0) ∧ ((ds0).length = N) ∧ ((bs0).length = N) ∧ St W (owns []) w' [blk gt_ [.int .i64 v, .slice (some ⟨gd_, 0, none⟩) N N, .slice (some ⟨gb_, 0, none⟩) N N] 72, row (some ⟨gd_, 0, none⟩) N N (ci .i64 ds0) 3 1, row (some ⟨gb_, 0, none⟩) N N (ci .i64 bs0) 3 1]) (N - ((0 : Int)).toNat) ⟨(fun k_ : Nat => List.getD ((.pointer (some ⟨g, 0, none⟩)) :: (.int .i64 v) :: (.pointer none) :: undef :: undef :: undef :: (.pointer none) :: (.int .i64 (N : Int)) :: (.pointer (some ⟨gt_, 0, none⟩)) :: undef :: undef :: undef :: undef :: undef :: undef :: undef :: undef :: (.pointer (some ⟨g, 0, none⟩)) :: (.int .i64 (N : Int)) :: ((u2 19)) :: ((u2 20)) :: ((u2 21)) :: ((u2 22)) :: ((u2 23)) :: ((u2 24)) :: ((u2 25)) :: (.int .i64 (N : Int)) :: (.int .i64 0) :: undef :: undef :: undef :: undef :: undef :: undef :: undef :: undef :: undef :: undef :: undef :: undef :: undef :: undef :: undef :: undef :: undef :: undef :: undef :: undef :: undef :: undef :: undef :: undef :: undef :: undef :: undef :: undef :: undef :: undef :: undef :: undef :: undef :: undef :: undef :: undef :: undef :: undef :: undef :: undef :: undef :: undef :: undef :: undef :: undef :: undef :: undef :: undef :: undef :: undef :: undef :: undef :: undef :: undef :: undef :: undef :: undef :: undef :: undef :: undef :: undef :: undef :: undef :: undef :: undef :: undef :: undef :: undef :: undef :: undef :: undef :: undef :: undef :: undef :: undef :: undef :: undef :: undef :: undef :: undef :: undef :: undef :: undef :: undef :: undef :: undef :: undef :: undef :: undef :: undef :: undef :: undef :: undef :: undef :: undef :: undef :: undef :: undef :: undef :: undef :: undef :: undef :: undef :: undef :: undef :: undef :: undef :: undef :: undef :: undef :: undef :: undef :: undef :: undef :: undef :: undef :: undef :: undef :: undef :: undef :: undef :: undef :: undef :: undef :: undef :: undef :: undef :: undef :: undef :: undef :: []) k_ undef), (0 : Int), List.replicate N 0, List.replicate N 0, congrArg Fr (by kernel_rfl), rfl, by omega, by omega, by simp, by simp, List.length_replicate, List.length_replicate, HS⟩ ?_
    clear HS
    intro kq18 a' W19 hrel
    obtain ⟨J17, w, ds0, bs0, rfl, hk, w0, w1, hd0, hb0, hdl, hbl, HS⟩ := hrel
    refine wp_seq ?_
    refine wp_region_lit ?_
    by_cases hc20 : w < (N : Int)
    · skip
      refine ql (.bool true) (by kernel_rfl) (R_bool (p := w < (N : Int)) (by kernel_rfl) (hc20)) ?_
      refine wpList_nil ?_
      refine x_then ?_
      refine wp_seq ?_
      refine wp_cond_true (by kernel_rfl) ?_
      refine wp_skip ?_
      refine x_then ?_
      refine wp_seq ?_
      refine wp_block ?_
      refine wp_seq ?_
      refine wp_region_lit ?_
      refine ql (.int .i64 w) (by kernel_rfl) (by kernel_rfl) ?_
      refine ql (.int .i64 w) (by kernel_rfl) (by kernel_rfl) ?_
      refine wpList_nil ?_
      refine x_then ?_
      refine t_start HS (fun k_ => (row (some ⟨gd_, 0, none⟩) N N (ci .i64 ds0) 3 1).own k_ ∨ (row (some ⟨gb_, 0, none⟩) N N (ci .i64 bs0) 3 1).own k_) 14 (by kernel_rfl) rfl ?_
      intro W21 H_ HD_
      clear HD_
      replace HS : St W (owns []) W21 [blk gt_ [.int .i64 v, .slice (some ⟨gd_, 0, none⟩) N N, .slice (some ⟨gb_, 0, none⟩) N N] 72, row (some ⟨gd_, 0, none⟩) N N (ci .i64 ds0) 3 1, row (some ⟨gb_, 0, none⟩) N N (ci .i64 bs0) 3 1] := H_
      clear H_
      have HV := HS
      have HK := Kpt.refl (fun k_ => (row (some ⟨gd_, 0, none⟩) N N (ci .i64 ds0) 3 1).own k_ ∨ (row (some ⟨gb_, 0, none⟩) N N (ci .i64 bs0) 3 1).own k_) W21
      refine t_q (n := 13) 0 (.pointer (some ⟨gt_, 0, none⟩)) rfl (by kernel_rfl) (by kernel_rfl) (fun _ _ _ h => h) (fun w' hk => (by kernel_rfl)) HK ?_
      refine t_q (n := 12) 1 (.pointer (some ⟨gt_, 0, none⟩)) rfl (by kernel_rfl) (by kernel_rfl) (fun _ _ _ h => h) (fun w' hk => (by kernel_rfl)) HK ?_
      refine t_q (n := 11) 2 (.pointer (some ⟨gt_, 1, none⟩)) rfl (by kernel_rfl) (by kernel_rfl) (fun _ _ _ h => h) (fun w' hk => (by kernel_rfl)) HK ?_
      refine t_q (n := 10) 3 (.slice (some ⟨gd_, 0, none⟩) N N) rfl (by kernel_rfl) (by kernel_rfl) (fun _ _ _ h => h) (fun w' hk => (R_load (p := ⟨gt_, 1, none⟩) (by kernel_rfl) (by kernel_rfl) (by kernel_rfl) (hk.cellN (fun h_ => h_.elim (HV.sepB (a := 0) (b := 1) (by decide) rfl rfl) (HV.sepB (a := 0) (b := 2) (by decide) rfl rfl)) (HV.cell (i := 0) (j := 1) rfl rfl)))) HK ?_
      refine t_q (n := 9) 4 (.int .i64 w) rfl (by kernel_rfl) (by kernel_rfl) (fun _ _ _ h => h) (fun w' hk => (by kernel_rfl)) HK ?_
      refine t_q (n := 8) 5 (.pointer (some ⟨gt_, 0, none⟩)) rfl (by kernel_rfl) (by kernel_rfl) (fun _ _ _ h => h) (fun w' hk => (by kernel_rfl)) HK ?_
      refine t_q (n := 7) 6 (.pointer (some ⟨gt_, 0, none⟩)) rfl (by kernel_rfl) (by kernel_rfl) (fun _ _ _ h => h) (fun w' hk => (by kernel_rfl)) HK ?_
      refine t_q (n := 6) 7 (.pointer (some ⟨gt_, 2, none⟩)) rfl (by kernel_rfl) (by kernel_rfl) (fun _ _ _ h => h) (fun w' hk => (by kernel_rfl)) HK ?_
      refine t_q (n := 5) 8 (.slice (some ⟨gb_, 0, none⟩) N N) rfl (by kernel_rfl) (by kernel_rfl) (fun _ _ _ h => h) (fun w' hk => (R_load (p := ⟨gt_, 2, none⟩) (by kernel_rfl) (by kernel_rfl) (by kernel_rfl) (hk.cellN (fun h_ => h_.elim (HV.sepB (a := 0) (b := 1) (by decide) rfl rfl) (HV.sepB (a := 0) (b := 2) (by decide) rfl rfl)) (HV.cell (i := 0) (j := 2) rfl rfl)))) HK ?_
      refine t_q (n := 4) 9 (.int .i64 w) rfl (by kernel_rfl) (by kernel_rfl) (fun _ _ _ h => h) (fun w' hk => (by kernel_rfl)) HK ?_
      refine t_q (n := 3) 10 (.pointer (some ⟨gd_, w.toNat, none⟩)) rfl (by kernel_rfl) (by kernel_rfl) (fun _ _ _ h => h) (fun w' hk => (R_index1 (k := .i64) (g := gd_) (n := N) (c := N) (i := w) (by kernel_rfl) (by kernel_rfl) Try.underlying28 (by kernel_rfl) (by omega) (by omega))) HK ?_
      obtain ⟨W22, hrun_, H_, hk_⟩ := ex_kr (P := Try.prog) (ty := 0) (ps := "bfs.go:22") (af := #[{ on := 10, ground := Go.Ground.data }, { on := 0, ground := Go.Ground.phase }, { on := 1, ground := Go.Ground.phase }, { on := 2, ground := Go.Ground.phase }, { on := 3, ground := Go.Ground.phase }, { on := 4, ground := Go.Ground.phase }, { on := 5, ground := (Go.Ground.textOnly Go.Departure.lateStores) }, { on := 6, ground := (Go.Ground.textOnly Go.Departure.lateStoresUnsure) }, { on := 7, ground := (Go.Ground.textOnly Go.Departure.lateStoresUnsure) }, { on := 8, ground := Go.Ground.phase }, { on := 9, ground := (Go.Ground.textOnly Go.Departure.lateStores) }]) (gd := none) (t := 3) (x := (Go.Operand.tmp 40)) (y := (Go.Operand.const (Go.Value.int Go.IntKind.i64 (-1)))) (v := .int .i64 (-1)) HS 1 rfl (w.toNat) [.int .i64 (-1)] (by kernel_rfl) (by kernel_rfl) (by kernel_rfl) (by kernel_rfl) (one_ (by kernel_rfl)) (by rw [ci_len]; first | omega | (simp only [List.length_singleton]; omega))
      replace HK := HK.trans hk_ (fun _ h_ => .inl (.inl (row_own h_)))
      refine t_s (n := 2) 11 rfl (by kernel_rfl) (by kernel_rfl) hrun_ HK ?_
      clear hk_ hrun_
      obtain ⟨xs23, xs23_⟩ : ∃ z_ : List Int, z_ = (ds0).set w.toNat (-1) := ⟨_, rfl⟩
      replace HS : St W (owns []) W22 [blk gt_ [.int .i64 v, .slice (some ⟨gd_, 0, none⟩) N N, .slice (some ⟨gb_, 0, none⟩) N N] 72, row (some ⟨gd_, 0, none⟩) N N (ci .i64 xs23) 3 1, row (some ⟨gb_, 0, none⟩) N N (ci .i64 bs0) 3 1] := H_.cast_ (by rw [xs23_, ← ci_set]; rfl)
      clear H_
      have xs23l : xs23.length = N := by rw [xs23_, List.length_set]; first | done | omega
      refine t_q (n := 1) 12 (.pointer (some ⟨gb_, w.toNat, none⟩)) rfl (by kernel_rfl) (by kernel_rfl) (fun _ _ _ h => h) (fun w' hk => (R_index1 (k := .i64) (g := gb_) (n := N) (c := N) (i := w) (by kernel_rfl) (by kernel_rfl) Try.underlying28 (by kernel_rfl) (by omega) (by omega))) HK ?_
      obtain ⟨W24, hrun_, H_, hk_⟩ := ex_kr (P := Try.prog) (ty := 0) (ps := "bfs.go:22") (af := #[{ on := 12, ground := Go.Ground.data }, { on := 11, ground := Go.Ground.chain }, { on := 0, ground := Go.Ground.phase }, { on := 1, ground := Go.Ground.phase }, { on := 2, ground := Go.Ground.phase }, { on := 3, ground := Go.Ground.phase }, { on := 4, ground := Go.Ground.phase }, { on := 5, ground := Go.Ground.phase }, { on := 6, ground := Go.Ground.phase }, { on := 7, ground := Go.Ground.phase }, { on := 8, ground := Go.Ground.phase }, { on := 9, ground := Go.Ground.phase }, { on := 10, ground := Go.Ground.phase }, { on := 11, ground := Go.Ground.phase }]) (gd := none) (t := 3) (x := (Go.Operand.tmp 41)) (y := (Go.Operand.const (Go.Value.int Go.IntKind.i64 (-1)))) (v := .int .i64 (-1)) HS 2 rfl (w.toNat) [.int .i64 (-1)] (by kernel_rfl) (by kernel_rfl) (by kernel_rfl) (by kernel_rfl) (one_ (by kernel_rfl)) (by rw [ci_len]; first | omega | (simp only [List.length_singleton]; omega))
      replace HK := HK.trans hk_ (fun _ h_ => .inl (.inr (row_own h_)))
      refine t_s (n := 0) 13 rfl (by kernel_rfl) (by kernel_rfl) hrun_ HK ?_
      clear hk_ hrun_
      obtain ⟨xs25, xs25_⟩ : ∃ z_ : List Int, z_ = (bs0).set w.toNat (-1) := ⟨_, rfl⟩
      replace HS : St W (owns []) W24 [blk gt_ [.int .i64 v, .slice (some ⟨gd_, 0, none⟩) N N, .slice (some ⟨gb_, 0, none⟩) N N] 72, row (some ⟨gd_, 0, none⟩) N N (ci .i64 xs23) 3 1, row (some ⟨gb_, 0, none⟩) N N (ci .i64 xs25) 3 1] := H_.cast_ (by rw [xs25_, ← ci_set]; rfl)
      clear H_
      have xs25l : xs25.length = N := by rw [xs25_, List.length_set]; first | done | omega
      refine t_done (by kernel_rfl) ?_
      clear HV HK
      refine x_inb ?_
      refine x_then ?_
      refine wp_region_lit ?_
      refine ql (.int .i64 (w + 1)) (by kernel_rfl) (R_int (by kernel_rfl) (w64 (by omega))) ?_
      refine ql (.int .i64 (w + 1)) (by kernel_rfl) (by kernel_rfl) ?_
      refine wpList_nil ?_
      refine x_then ?_
      exact ⟨N - (w + 1).toNat, by omega, (fun k_ : Nat => List.getD ((.pointer (some ⟨g, 0, none⟩)) :: (.int .i64 v) :: (.pointer none) :: undef :: undef :: undef :: (.pointer none) :: (.int .i64 (N : Int)) :: (.pointer (some ⟨gt_, 0, none⟩)) :: (.int .i64 w) :: undef :: undef :: undef :: undef :: undef :: undef :: undef :: (.pointer (some ⟨g, 0, none⟩)) :: (.int .i64 (N : Int)) :: ((u2 19)) :: ((u2 20)) :: ((u2 21)) :: ((u2 22)) :: ((u2 23)) :: ((u2 24)) :: ((u2 25)) :: (.int .i64 (N : Int)) :: (.int .i64 (w + 1)) :: (.bool true) :: (.int .i64 w) :: (.pointer (some ⟨gt_, 0, none⟩)) :: (.pointer (some ⟨gt_, 0, none⟩)) :: (.pointer (some ⟨gt_, 1, none⟩)) :: (.slice (some ⟨gd_, 0, none⟩) N N) :: (.int .i64 w) :: (.pointer (some ⟨gt_, 0, none⟩)) :: (.pointer (some ⟨gt_, 0, none⟩)) :: (.pointer (some ⟨gt_, 2, none⟩)) :: (.slice (some ⟨gb_, 0, none⟩) N N) :: (.int .i64 w) :: (.pointer (some ⟨gd_, w.toNat, none⟩)) :: (.pointer (some ⟨gb_, w.toNat, none⟩)) :: (.int .i64 (w + 1)) :: undef :: undef :: undef :: undef :: undef :: undef :: undef :: undef :: undef :: undef :: undef :: undef :: undef :: undef :: undef :: undef :: undef :: undef :: undef :: undef :: undef :: undef :: undef :: undef :: undef :: undef :: undef :: undef :: undef :: undef :: undef :: undef :: undef :: undef :: undef :: undef :: undef :: undef :: undef :: undef :: undef :: undef :: undef :: undef :: undef :: undef :: undef :: undef :: undef :: undef :: undef :: undef :: undef :: undef :: undef :: undef :: undef :: undef :: undef :: undef :: undef :: undef :: undef :: undef :: undef :: undef :: undef :: undef :: undef :: undef :: undef :: undef :: undef :: undef :: undef :: undef :: undef :: undef :: undef :: undef :: undef :: undef :: undef :: undef :: undef :: undef :: undef :: undef :: undef :: undef :: undef :: undef :: undef :: undef :: undef :: undef :: undef :: undef :: undef :: undef :: undef :: undef :: undef :: undef :: undef :: undef :: undef :: undef :: undef :: undef :: undef :: undef :: undef :: undef :: undef :: []) k_ undef), w + 1, xs23, xs25, congrArg Fr (by kernel_rfl), rfl, by omega, by omega, fill_step w0 (by omega) hd0 xs23_, fill_step w0 (by omega) hb0 xs25_, by omega, by omega, HS⟩
    · skip
      refine ql (.bool false) (by kernel_rfl) (R_nbool (p := w < (N : Int)) (by kernel_rfl) (hc20)) ?_
      refine wpList_nil ?_
      refine x_then ?_
      refine wp_seq ?_
      refine wp_cond_false (by kernel_rfl) ?_
      refine wp_exit ?_
      refine x_thenE ?_
      refine x_thenE ?_
      refine x_hit ?_
      refine x_then ?_
      refine wp_seq ?_
      refine wp_seq ?_
      have he_ds0 : ds0 = List.replicate N (-1) := by rw [hd0, show w.toNat = N by omega]; simp
      have he_bs0 : bs0 = List.replicate N (-1) := by rw [hb0, show w.toNat = N by omega]; simp
      subst he_ds0
      subst he_bs0
      refine wp_region_lit ?_
      refine ql (.int .i64 v) (by kernel_rfl) (by kernel_rfl) ?_
      by_cases hc26 : v < (0 : Int)
      · skip
        refine ql (.bool true) (by kernel_rfl) (R_bool (p := v < (0 : Int)) (by kernel_rfl) (hc26)) ?_
        refine ql (.bool true) (by kernel_rfl) (by kernel_rfl) ?_
        refine qln (by kernel_rfl) ?_
        refine qln (by kernel_rfl) ?_
        refine qln (by kernel_rfl) ?_
        refine ql (.bool true) (by kernel_rfl) (by kernel_rfl) ?_
        refine wpList_nil ?_
        refine x_then ?_
        refine wp_cond_true (by kernel_rfl) ?_
        refine wp_seq ?_
        refine wp_region_lit ?_
        refine ql (.pointer (some ⟨gt_, 0, none⟩)) (by kernel_rfl) (by kernel_rfl) ?_
        refine ql (.pointer (some ⟨gt_, 0, none⟩)) (by kernel_rfl) (by kernel_rfl) ?_
        refine wpList_nil ?_
        refine x_then ?_
        refine wp_ret ?_
        refine x_thenR ?_
        refine ret_ (.pointer (some ⟨gt_, 0, none⟩)) (by kernel_rfl) ?_
        exact ⟨_, _, _, _, _, _, _, rfl, HS, ds_none hF hv, bk_none hF⟩
      · skip
        refine ql (.bool false) (by kernel_rfl) (R_nbool (p := v < (0 : Int)) (by kernel_rfl) (hc26)) ?_
        refine ql (.bool false) (by kernel_rfl) (by kernel_rfl) ?_
        refine ql (.int .i64 v) (by kernel_rfl) (by kernel_rfl) ?_
        refine ql (.int .i64 (N : Int)) (by kernel_rfl) (by kernel_rfl) ?_
        refine ql (.bool true) (by kernel_rfl) (R_bool (p := v ≥ (N : Int)) (by kernel_rfl) (by omega)) ?_
        refine ql (.bool true) (by kernel_rfl) (by kernel_rfl) ?_
        refine wpList_nil ?_
        refine x_then ?_
        refine wp_cond_true (by kernel_rfl) ?_
        refine wp_seq ?_
        refine wp_region_lit ?_
        refine ql (.pointer (some ⟨gt_, 0, none⟩)) (by kernel_rfl) (by kernel_rfl) ?_
        refine ql (.pointer (some ⟨gt_, 0, none⟩)) (by kernel_rfl) (by kernel_rfl) ?_
        refine wpList_nil ?_
        refine x_then ?_
        refine wp_ret ?_
        refine x_thenR ?_
        refine ret_ (.pointer (some ⟨gt_, 0, none⟩)) (by kernel_rfl) ?_
        exact ⟨_, _, _, _, _, _, _, rfl, HS, ds_none hF hv, bk_none hF⟩


/-- A tree in memory. -/
def TAt (W : World) (t : Nat) (ds bs : List Int) : Prop := ∃ D B cd cb, W.cell? ⟨t, 1, none⟩ = some (.slice D ds.length cd) ∧ W.cell? ⟨t, 2, none⟩ = some (.slice B bs.length cb) ∧ Rd W D (ci .i64 ds) ∧ Rd W B (ci .i64 bs) ∧ bs.length = ds.length
theorem cell_below {W W' : World} {p : Addr} {v : Value} (h : W.cell? p = some v) (hb : Below W.heap.size W W') : W'.cell? p = some v := (World.cell?_of_block (hb.block p.block (World.block_lt_of_cell? W p h))).trans h
theorem TAt.below {W W' : World} {t : Nat} {ds bs : List Int} (h : TAt W t ds bs) (hb : Below W.heap.size W W') : TAt W' t ds bs := by
  obtain ⟨D, B, cd, cb, h1, h2, h3, h4, h5⟩ := h
  exact ⟨D, B, cd, cb, cell_below h1 hb, cell_below h2 hb, h3.below hb, h4.below hb, h5⟩
theorem TAt.of {W0 W : World} {M : Nat → Prop} {L : List Ent} {N t tb : Nat} {v : Value} {D B : Option Addr} {cd cb : Nat} {ds bs : List Int} (HS : St W0 M W (blk t [v, .slice D N cd, .slice B N cb] tb :: row D N cd (ci .i64 ds) 3 1 :: row B N cb (ci .i64 bs) 3 1 :: L)) (hd : ds.length = N) (hb : bs.length = N) : TAt W t ds bs := by
  subst hd
  refine ⟨D, B, cd, cb, HS.cell (i := 0) (j := 1) rfl rfl, ?_, Rd.row HS (i := 1) rfl, Rd.row HS (i := 2) rfl, hb⟩
  rw [hb]; exact HS.cell (i := 0) (j := 2) rfl rfl
theorem tdist_y (t : Nat) (ds bs : List Int) (W : World) (hT : TAt W t ds bs) (v : Int) (h0 : 0 ≤ v) (h1' : v < ds.length) : Calls Try.prog 31 #[.pointer (some ⟨t, 0, none⟩), .int .i64 v] W fun e W' => e = .returned (.int .i64 (rdI ds v)) ∧ St W (owns []) W' [] := by
  obtain ⟨D, B, cd, cb, h1, h2, h3, h4, h5⟩ := hT
  exact tdist_yes t D B cd cb ds bs W v h1 h2 h3 h4 h5 ⟨h0, h1'⟩

theorem tback_y (t : Nat) (ds bs : List Int) (W : World) (hT : TAt W t ds bs) (v : Int) (h0 : 0 ≤ v) (h1' : v < ds.length) : Calls Try.prog 34 #[.pointer (some ⟨t, 0, none⟩), .int .i64 v] W fun e W' => e = .returned (.int .i64 (rdI bs v)) ∧ St W (owns []) W' [] := by
  obtain ⟨D, B, cd, cb, h1, h2, h3, h4, h5⟩ := hT
  exact tback_yes t D B cd cb ds bs W v h1 h2 h3 h4 h5 ⟨h0, h1'⟩

theorem tlayer_y (t : Nat) (ds bs : List Int) (W : World) (hT : TAt W t ds bs) (v : Int) (hl : ds.length ≤ 1099511627776) (h0 : 0 ≤ v) : Calls Try.prog 36 #[.pointer (some ⟨t, 0, none⟩), .int .i64 v] W fun e W' => ∃ A' c', e = .returned (.slice A' (layr ds v ds.length).length c') ∧ St W (owns []) W' [row A' (layr ds v ds.length).length c' (ci .i64 (layr ds v ds.length)) 3 1] := by
  obtain ⟨D, B, cd, cb, h1, h2, h3, h4, h5⟩ := hT
  exact tlayer t D B cd cb ds bs W v h1 h2 h3 h4 h5 hl h0

theorem fromT_yes (g N : Nat) (arcs : List (Int × Int)) (v : Int) (W : World) (hG : GAt W g N arcs) (hN : N ≤ 1048576) (hm : arcs.length ≤ 67108864) (hv0 : 0 ≤ v) (hv1 : v < N) : Calls Try.prog 30 #[.pointer (some ⟨g, 0, none⟩), .int .i64 v, .pointer none] W fun e W' => ∃ (t : Nat) (ds bs : List Int), e = .returned (.pointer (some ⟨t, 0, none⟩)) ∧ St W (owns []) W' [] ∧ TAt W' t ds bs ∧ DS N arcs v ds ∧ BK N arcs ds bs := by
  refine (from_yes g N arcs v W hG hN hm hv0 hv1).mono ?_
  rintro e W' ⟨t, D, B, cd, cb, ds, bs, he, hs, hd, hb⟩
  exact ⟨t, ds, bs, he, hs.drop1.drop1.drop1, TAt.of hs hd.ld hb.lb, hd, hb⟩

theorem fromT_no (g N : Nat) (arcs : List (Int × Int)) (v : Int) (W : World) (hG : GAt W g N arcs) (hN : N ≤ 1048576) (hm : arcs.length ≤ 67108864) (hv : ¬ (0 ≤ v ∧ v < N)) : Calls Try.prog 30 #[.pointer (some ⟨g, 0, none⟩), .int .i64 v, .pointer none] W fun e W' => ∃ (t : Nat) (ds bs : List Int), e = .returned (.pointer (some ⟨t, 0, none⟩)) ∧ St W (owns []) W' [] ∧ TAt W' t ds bs ∧ DS N arcs v ds ∧ BK N arcs ds bs := by
  refine (from_no g N arcs v W hG hN hm hv).mono ?_
  rintro e W' ⟨t, D, B, cd, cb, ds, bs, he, hs, hd, hb⟩
  exact ⟨t, ds, bs, he, hs.drop1.drop1.drop1, TAt.of hs hd.ld hb.lb, hd, hb⟩

theorem fromT (g N : Nat) (arcs : List (Int × Int)) (v : Int) (W : World) (hG : GAt W g N arcs) (hN : N ≤ 1048576) (hm : arcs.length ≤ 67108864) : Calls Try.prog 30 #[.pointer (some ⟨g, 0, none⟩), .int .i64 v, .pointer none] W fun e W' => ∃ (t : Nat) (ds bs : List Int), e = .returned (.pointer (some ⟨t, 0, none⟩)) ∧ St W (owns []) W' [] ∧ TAt W' t ds bs ∧ DS N arcs v ds ∧ BK N arcs ds bs := by
  by_cases hv : 0 ≤ v ∧ v < N
  · exact fromT_yes g N arcs v W hG hN hm hv.1 hv.2
  · exact fromT_no g N arcs v W hG hN hm hv

set_option maxRecDepth 100000 in
set_option maxHeartbeats 1000000 in
theorem cnan (x : Int) (W : World) : Calls Try.prog 64 #[.int .i64 x] W fun e W' => e = .returned (.bool false) ∧ St W (owns []) W' [] := by
  have HS : St W (owns []) W [] := St.start W _
  refine calls_enter [.int .i64 x, undef, undef, undef, undef, undef] Try.func64 rfl (by kernel_rfl) ?_
  refine wp_seq ?_
  refine wp_region_lit ?_
  refine ql (.bool false) (by kernel_rfl) (by kernel_rfl) ?_
  refine wpList_nil ?_
  refine x_then ?_
  refine wp_seq ?_
  refine wp_region_lit ?_
  refine ql (.int .i64 x) (by kernel_rfl) (by kernel_rfl) ?_
  refine ql (.int .i64 x) (by kernel_rfl) (by kernel_rfl) ?_
  refine ql (.bool false) (by kernel_rfl) (R_beq (b := (x != x)) (by kernel_rfl) (bne_f (by omega))) ?_
  refine ql (.bool false) (by kernel_rfl) (by kernel_rfl) ?_
  refine wpList_nil ?_
  refine x_then ?_
  refine wp_ret ?_
  refine ret_ (.bool false) (by kernel_rfl) ?_
  exact ⟨rfl, HS⟩

set_option maxRecDepth 100000 in
set_option maxHeartbeats 1000000 in
theorem ccmp (x y : Int) (W : World) : Calls Try.prog 62 #[.int .i64 x, .int .i64 y] W fun e W' => e = .returned (.int .i64 (cmpI x y)) ∧ St W (owns []) W' [] := by
  have HS : St W (owns []) W [] := St.start W _
  refine calls_enter [.int .i64 x, .int .i64 y, undef, undef, undef, undef, undef, undef, undef, undef, undef, undef, undef, undef, undef, undef, undef, undef, undef, undef] Try.func62 rfl (by kernel_rfl) ?_
  refine wp_seq ?_
  refine wp_region_lit ?_
  refine ql (.int .i64 0) (by kernel_rfl) (by kernel_rfl) ?_
  refine wpList_nil ?_
  refine x_then ?_
  refine wp_seq ?_
  refine wp_region_lit ?_
  refine ql (.int .i64 x) (by kernel_rfl) (by kernel_rfl) ?_
  refine qc (f := 64) (args := #[.int .i64 x]) (by kernel_rfl) (R_call #[.int .i64 x] Try.func64 (by kernel_rfl) (by kernel_rfl) (by kernel_rfl)) ?_
  refine (cnan x _).mono ?_
  rintro e W1 ⟨rfl, H_⟩
  refine ⟨_, rfl, ?_⟩
  replace HS : St W (owns []) W1 [] := HS.join (F := []) (G := []) H_
  clear H_
  refine ql (.bool false) (by kernel_rfl) (by kernel_rfl) ?_
  refine wpList_nil ?_
  refine x_then ?_
  refine wp_seq ?_
  refine wp_region_lit ?_
  refine ql (.int .i64 y) (by kernel_rfl) (by kernel_rfl) ?_
  refine qc (f := 64) (args := #[.int .i64 y]) (by kernel_rfl) (R_call #[.int .i64 y] Try.func64 (by kernel_rfl) (by kernel_rfl) (by kernel_rfl)) ?_
  refine (cnan y _).mono ?_
  rintro e W2 ⟨rfl, H_⟩
  refine ⟨_, rfl, ?_⟩
  replace HS : St W (owns []) W2 [] := HS.join (F := []) (G := []) H_
  clear H_
  refine ql (.bool false) (by kernel_rfl) (by kernel_rfl) ?_
  refine wpList_nil ?_
  refine x_then ?_
  refine wp_seq ?_
  refine wp_seq ?_
  refine wp_region_lit ?_
  refine ql (.bool false) (by kernel_rfl) (by kernel_rfl) ?_
  refine wpList_nil ?_
  refine x_then ?_
  refine wp_cond_false (by kernel_rfl) ?_
  refine wp_skip ?_
  refine x_then ?_
  refine wp_seq ?_
  refine wp_seq ?_
  refine wp_region_lit ?_
  refine ql (.bool false) (by kernel_rfl) (by kernel_rfl) ?_
  refine wpList_nil ?_
  refine x_then ?_
  refine wp_cond_false (by kernel_rfl) ?_
  refine wp_skip ?_
  refine x_then ?_
  refine wp_seq ?_
  refine wp_seq ?_
  refine wp_region_lit ?_
  refine ql (.int .i64 x) (by kernel_rfl) (by kernel_rfl) ?_
  refine ql (.int .i64 y) (by kernel_rfl) (by kernel_rfl) ?_
  by_cases hc3 : x < y
  · skip
    refine ql (.bool true) (by kernel_rfl) (R_bool (p := x < y) (by kernel_rfl) (hc3)) ?_
    refine wpList_nil ?_
    refine x_then ?_
    refine wp_cond_true (by kernel_rfl) ?_
    refine wp_seq ?_
    refine wp_region_lit ?_
    refine ql (.int .i64 (-1)) (by kernel_rfl) (by kernel_rfl) ?_
    refine wpList_nil ?_
    refine x_then ?_
    refine wp_ret ?_
    refine x_thenR ?_
    refine ret_ (.int .i64 (-1)) (by kernel_rfl) ?_
    have hc_ : cmpI x y = -1 := by unfold cmpI; split <;> (try split) <;> omega
    exact ⟨by rw [hc_], HS⟩
  · skip
    refine ql (.bool false) (by kernel_rfl) (R_nbool (p := x < y) (by kernel_rfl) (hc3)) ?_
    refine wpList_nil ?_
    refine x_then ?_
    refine wp_cond_false (by kernel_rfl) ?_
    refine wp_skip ?_
    refine x_then ?_
    refine wp_seq ?_
    refine wp_seq ?_
    refine wp_region_lit ?_
    refine ql (.int .i64 x) (by kernel_rfl) (by kernel_rfl) ?_
    refine ql (.int .i64 y) (by kernel_rfl) (by kernel_rfl) ?_
    by_cases hc4 : x > y
    · skip
      refine ql (.bool true) (by kernel_rfl) (R_bool (p := x > y) (by kernel_rfl) (hc4)) ?_
      refine wpList_nil ?_
      refine x_then ?_
      refine wp_cond_true (by kernel_rfl) ?_
      refine wp_seq ?_
      refine wp_region_lit ?_
      refine ql (.int .i64 1) (by kernel_rfl) (by kernel_rfl) ?_
      refine wpList_nil ?_
      refine x_then ?_
      refine wp_ret ?_
      refine x_thenR ?_
      refine ret_ (.int .i64 1) (by kernel_rfl) ?_
      have hc_ : cmpI x y = 1 := by unfold cmpI; split <;> (try split) <;> omega
      exact ⟨by rw [hc_], HS⟩
    · skip
      refine ql (.bool false) (by kernel_rfl) (R_nbool (p := x > y) (by kernel_rfl) (hc4)) ?_
      refine wpList_nil ?_
      refine x_then ?_
      refine wp_cond_false (by kernel_rfl) ?_
      refine wp_skip ?_
      refine x_then ?_
      refine wp_seq ?_
      refine wp_region_lit ?_
      refine ql (.int .i64 0) (by kernel_rfl) (by kernel_rfl) ?_
      refine wpList_nil ?_
      refine x_then ?_
      refine wp_ret ?_
      refine ret_ (.int .i64 0) (by kernel_rfl) ?_
      have hc_ : cmpI x y = 0 := by unfold cmpI; split <;> (try split) <;> omega
      exact ⟨by rw [hc_], HS⟩

set_option maxRecDepth 100000 in
set_option maxHeartbeats 1000000 in
theorem ccompare (A B : Option Addr) (n m c d : Nat) (xs ys : List Int) (W : World) (hr : Rd W A (ci .i64 xs)) (hs : Rd W B (ci .i64 ys)) (hn : xs.length = n) (hm : ys.length = m) (hl : xs.length ≤ 1099511627776) (hl2 : ys.length ≤ 1099511627776) : Calls Try.prog 60 #[.slice A n c, .slice B m d] W fun e W' => e = .returned (.int .i64 (lx xs ys)) ∧ St W (owns []) W' [] := by
  have HS : St W (owns []) W [] := St.start W _
  refine calls_enter [.slice A n c, .slice B m d, undef, undef, undef, undef, undef, undef, undef, undef, undef, undef, undef, undef, undef, undef, undef, undef, undef, undef, undef, undef, undef, undef, undef, undef, undef, undef, undef, undef, undef, undef, undef, undef, undef, undef] Try.func60 rfl (by kernel_rfl) ?_
  refine wp_seq ?_
  refine wp_region_lit ?_
  refine ql (.int .i64 0) (by kernel_rfl) (by kernel_rfl) ?_
  refine wpList_nil ?_
  refine x_then ?_
  refine wp_seq ?_
  refine wp_seq ?_
  refine wp_region_lit ?_
  refine ql (.slice A n c) (by kernel_rfl) (by kernel_rfl) ?_
  refine ql (.int .i64 (n : Int)) (by kernel_rfl) (by kernel_rfl) ?_
  refine ql (.int .i64 0) (by kernel_rfl) (by kernel_rfl) ?_
  refine wpList_nil ?_
  refine x_then ?_
  refine wp_block ?_
  refine wp_loop_ghost (fun kq a' w' => ∃ (J1 : Nat → Value) (i : Int) , a' = Fr [.slice A n c, .slice B m d, undef, undef, (J1 4), (J1 5), (J1 6), (J1 7), (J1 8), .slice A n c, .int .i64 (n : Int), .int .i64 i, (J1 12), (J1 13), (J1 14), (J1 15), (J1 16), (J1 17), (J1 18), (J1 19), (J1 20), (J1 21), (J1 22), (J1 23), (J1 24), (J1 25), (J1 26), (J1 27), (J1 28), (J1 29), (J1 30), undef, undef, undef, undef, undef] ∧ kq = (n - (i).toNat) ∧ (0 ≤ i) ∧ (i ≤ n) ∧ (lx xs ys = lx (xs.drop (i).toNat) (ys.drop (i).toNat)) ∧ (i ≤ m) ∧ St W (owns []) w' []) (n - ((0 : Int)).toNat) ⟨(fun k_ : Nat => List.getD [.slice A n c, .slice B m d, undef, undef, .int .i64 0, undef, undef, undef, undef, .slice A n c, .int .i64 (n : Int), .int .i64 0, undef, undef, undef, undef, undef, undef, undef, undef, undef, undef, undef, undef, undef, undef, undef, undef, undef, undef, undef, undef, undef, undef, undef, undef] k_ undef), (0 : Int), congrArg Fr (by kernel_rfl), rfl, by omega, by omega, by rw [Int.toNat_zero, List.drop_zero, List.drop_zero], by omega, HS⟩ ?_
  clear HS
  intro kq2 a' W3 hrel
  obtain ⟨J1, i, rfl, hk, i0, i1, hL, i2, HS⟩ := hrel
  refine wp_seq ?_
  refine wp_region_lit ?_
  by_cases hc4 : i < (n : Int)
  · skip
    refine ql (.bool true) (by kernel_rfl) (R_bool (p := i < (n : Int)) (by kernel_rfl) (hc4)) ?_
    refine wpList_nil ?_
    refine x_then ?_
    refine wp_seq ?_
    refine wp_cond_true (by kernel_rfl) ?_
    refine wp_skip ?_
    refine x_then ?_
    refine wp_seq ?_
    refine wp_block ?_
    refine wp_seq ?_
    refine wp_region_lit ?_
    refine ql (.int .i64 i) (by kernel_rfl) (by kernel_rfl) ?_
    obtain ⟨ad5, rfl⟩ := Rd.isSome_ hr (by rw [ci_len]; omega)
    refine ql (.pointer (some (ad5.add i.toNat))) (by kernel_rfl) (R_indexA1 (k := .i64) (p := ad5) (n := n) (c := c) (i := i) (by kernel_rfl) (by kernel_rfl) Try.underlying28 (by kernel_rfl) (by omega) (by omega)) ?_
    refine ql (.int .i64 (rdI xs i)) (by kernel_rfl) (R_load (p := ad5.add i.toNat) (by kernel_rfl) (by kernel_rfl) (by kernel_rfl) (HS.old0 (hr.at_ (ci_rd (i := i) (by omega) (by omega))))) ?_
    refine ql (.int .i64 i) (by kernel_rfl) (by kernel_rfl) ?_
    refine ql (.int .i64 (rdI xs i)) (by kernel_rfl) (by kernel_rfl) ?_
    refine wpList_nil ?_
    refine x_then ?_
    refine wp_seq ?_
    refine wp_seq ?_
    refine wp_region_lit ?_
    refine ql (.int .i64 i) (by kernel_rfl) (by kernel_rfl) ?_
    refine ql (.slice B m d) (by kernel_rfl) (by kernel_rfl) ?_
    refine ql (.int .i64 (m : Int)) (by kernel_rfl) (by kernel_rfl) ?_
    by_cases hc6 : i ≥ (m : Int)
    · skip
      refine ql (.bool true) (by kernel_rfl) (R_bool (p := i ≥ (m : Int)) (by kernel_rfl) (hc6)) ?_
      refine wpList_nil ?_
      refine x_then ?_
      refine wp_cond_true (by kernel_rfl) ?_
      refine wp_seq ?_
      refine wp_region_lit ?_
      refine ql (.int .i64 1) (by kernel_rfl) (by kernel_rfl) ?_
      refine wpList_nil ?_
      refine x_then ?_
      refine wp_ret ?_
      refine x_thenR ?_
      refine x_inbR ?_
      refine x_thenR ?_
      refine x_thenR ?_
      refine x_inbR ?_
      refine x_thenR ?_
      refine ret_ (.int .i64 1) (by kernel_rfl) ?_
      have hq := lx_long (ys := ys) i0 (by omega : i < xs.length) (by omega)
      exact ⟨by rw [hL, hq], HS⟩
    · skip
      refine ql (.bool false) (by kernel_rfl) (R_nbool (p := i ≥ (m : Int)) (by kernel_rfl) (hc6)) ?_
      refine wpList_nil ?_
      refine x_then ?_
      refine wp_cond_false (by kernel_rfl) ?_
      refine wp_skip ?_
      refine x_then ?_
      refine wp_seq ?_
      refine wp_region_lit ?_
      refine ql (.slice B m d) (by kernel_rfl) (by kernel_rfl) ?_
      refine ql (.int .i64 i) (by kernel_rfl) (by kernel_rfl) ?_
      obtain ⟨ad7, rfl⟩ := Rd.isSome_ hs (by rw [ci_len]; omega)
      refine ql (.pointer (some (ad7.add i.toNat))) (by kernel_rfl) (R_indexA1 (k := .i64) (p := ad7) (n := m) (c := d) (i := i) (by kernel_rfl) (by kernel_rfl) Try.underlying28 (by kernel_rfl) (by omega) (by omega)) ?_
      refine ql (.int .i64 (rdI ys i)) (by kernel_rfl) (R_load (p := ad7.add i.toNat) (by kernel_rfl) (by kernel_rfl) (by kernel_rfl) (HS.old0 (hs.at_ (ci_rd (i := i) (by omega) (by omega))))) ?_
      refine ql (.int .i64 (rdI ys i)) (by kernel_rfl) (by kernel_rfl) ?_
      refine wpList_nil ?_
      refine x_then ?_
      refine wp_seq ?_
      refine wp_region_lit ?_
      refine ql (.int .i64 (rdI xs i)) (by kernel_rfl) (by kernel_rfl) ?_
      refine ql (.int .i64 (rdI ys i)) (by kernel_rfl) (by kernel_rfl) ?_
      refine qc (f := 62) (args := #[.int .i64 (rdI xs i), .int .i64 (rdI ys i)]) (by kernel_rfl) (R_call #[.int .i64 (rdI xs i), .int .i64 (rdI ys i)] Try.func62 (by kernel_rfl) (by kernel_rfl) (by kernel_rfl)) ?_
      refine (ccmp (rdI xs i) (rdI ys i) _).mono ?_
      rintro e W8 ⟨rfl, H_⟩
      refine ⟨_, rfl, ?_⟩
      replace HS : St W (owns []) W8 [] := HS.join (F := []) (G := []) H_
      clear H_
      refine ql (.int .i64 (cmpI (rdI xs i) (rdI ys i))) (by kernel_rfl) (by kernel_rfl) ?_
      refine wpList_nil ?_
      refine x_then ?_
      refine wp_seq ?_
      refine wp_region_lit ?_
      refine ql (.int .i64 (cmpI (rdI xs i) (rdI ys i))) (by kernel_rfl) (by kernel_rfl) ?_
      by_cases hc9 : (cmpI (rdI xs i) (rdI ys i)) = (0 : Int)
      · skip
        refine ql (.bool false) (by kernel_rfl) (R_beq (b := (cmpI (rdI xs i) (rdI ys i) != (0 : Int))) (by kernel_rfl) (bne_f (hc9))) ?_
        refine wpList_nil ?_
        refine x_then ?_
        refine wp_cond_false (by kernel_rfl) ?_
        refine wp_skip ?_
        refine x_inb ?_
        refine x_then ?_
        refine wp_region_lit ?_
        refine ql (.int .i64 (i + 1)) (by kernel_rfl) (R_int (by kernel_rfl) (w64 (by omega))) ?_
        refine ql (.int .i64 (i + 1)) (by kernel_rfl) (by kernel_rfl) ?_
        refine wpList_nil ?_
        have hxy : rdI xs i = rdI ys i := by unfold cmpI at hc9; split at hc9 <;> (try split at hc9) <;> omega
        have hst := lx_step i0 (by omega) (by omega) hxy
        refine x_then ?_
        exact ⟨n - (i + 1).toNat, by omega, (fun k_ : Nat => List.getD [.slice (some ad5) n c, .slice (some ad7) m d, undef, undef, (J1 4), .int .i64 i, .int .i64 (rdI xs i), .int .i64 (rdI ys i), .int .i64 (cmpI (rdI xs i) (rdI ys i)), .slice (some ad5) n c, .int .i64 (n : Int), .int .i64 (i + 1), .bool true, .int .i64 i, .pointer (some (ad5.add i.toNat)), .int .i64 (rdI xs i), .int .i64 i, .slice (some ad7) m d, .int .i64 (m : Int), .bool false, .slice (some ad7) m d, .int .i64 i, .pointer (some (ad7.add i.toNat)), .int .i64 (rdI ys i), .int .i64 (rdI xs i), .int .i64 (rdI ys i), .int .i64 (cmpI (rdI xs i) (rdI ys i)), .int .i64 (cmpI (rdI xs i) (rdI ys i)), .bool false, (J1 29), .int .i64 (i + 1), undef, undef, undef, undef, undef] k_ undef), i + 1, congrArg Fr (by kernel_rfl), rfl, by omega, by omega, hL.trans hst, by omega, HS⟩
      · skip
        refine ql (.bool true) (by kernel_rfl) (R_beq (b := (cmpI (rdI xs i) (rdI ys i) != (0 : Int))) (by kernel_rfl) (bne_t (hc9))) ?_
        refine wpList_nil ?_
        refine x_then ?_
        refine wp_cond_true (by kernel_rfl) ?_
        refine wp_seq ?_
        refine wp_region_lit ?_
        refine ql (.int .i64 (cmpI (rdI xs i) (rdI ys i))) (by kernel_rfl) (by kernel_rfl) ?_
        refine ql (.int .i64 (cmpI (rdI xs i) (rdI ys i))) (by kernel_rfl) (by kernel_rfl) ?_
        refine wpList_nil ?_
        refine x_then ?_
        refine wp_ret ?_
        refine x_inbR ?_
        refine x_thenR ?_
        refine x_thenR ?_
        refine x_inbR ?_
        refine x_thenR ?_
        refine ret_ (.int .i64 (cmpI (rdI xs i) (rdI ys i))) (by kernel_rfl) ?_
        have hq : lx (xs.drop i.toNat) (ys.drop i.toNat) = cmpI (rdI xs i) (rdI ys i) := by
            unfold cmpI
            unfold cmpI at hc9
            by_cases h1 : rdI xs i < rdI ys i
            · rw [if_pos h1]; exact lx_lt i0 (by omega) (by omega) h1
            · by_cases h2 : rdI ys i < rdI xs i
              · rw [if_neg h1, if_pos h2]; exact lx_gt i0 (by omega) (by omega) h2
              · rw [if_neg h1, if_neg h2] at hc9; exact absurd rfl hc9
        exact ⟨by rw [hL, hq], HS⟩
  · skip
    refine ql (.bool false) (by kernel_rfl) (R_nbool (p := i < (n : Int)) (by kernel_rfl) (hc4)) ?_
    refine wpList_nil ?_
    refine x_then ?_
    refine wp_seq ?_
    refine wp_cond_false (by kernel_rfl) ?_
    refine wp_exit ?_
    refine x_thenE ?_
    refine x_thenE ?_
    refine x_hit ?_
    refine x_then ?_
    refine wp_seq ?_
    refine wp_seq ?_
    refine wp_region_lit ?_
    refine ql (.slice A n c) (by kernel_rfl) (by kernel_rfl) ?_
    refine ql (.int .i64 (n : Int)) (by kernel_rfl) (by kernel_rfl) ?_
    refine ql (.slice B m d) (by kernel_rfl) (by kernel_rfl) ?_
    refine ql (.int .i64 (m : Int)) (by kernel_rfl) (by kernel_rfl) ?_
    by_cases hc10 : (n : Int) < (m : Int)
    · skip
      refine ql (.bool true) (by kernel_rfl) (R_bool (p := (n : Int) < (m : Int)) (by kernel_rfl) (hc10)) ?_
      refine wpList_nil ?_
      refine x_then ?_
      refine wp_cond_true (by kernel_rfl) ?_
      refine wp_seq ?_
      refine wp_region_lit ?_
      refine ql (.int .i64 (-1)) (by kernel_rfl) (by kernel_rfl) ?_
      refine wpList_nil ?_
      refine x_then ?_
      refine wp_ret ?_
      refine x_thenR ?_
      refine ret_ (.int .i64 (-1)) (by kernel_rfl) ?_
      have hq := lx_end (xs := xs) (ys := ys) i0 (by omega)
      rw [if_pos (by omega)] at hq
      exact ⟨by rw [hL, hq], HS⟩
    · skip
      refine ql (.bool false) (by kernel_rfl) (R_nbool (p := (n : Int) < (m : Int)) (by kernel_rfl) (hc10)) ?_
      refine wpList_nil ?_
      refine x_then ?_
      refine wp_cond_false (by kernel_rfl) ?_
      refine wp_skip ?_
      refine x_then ?_
      refine wp_seq ?_
      refine wp_region_lit ?_
      refine ql (.int .i64 0) (by kernel_rfl) (by kernel_rfl) ?_
      refine wpList_nil ?_
      refine x_then ?_
      refine wp_ret ?_
      refine ret_ (.int .i64 0) (by kernel_rfl) ?_
      have hq := lx_end (xs := xs) (ys := ys) i0 (by omega)
      rw [if_neg (by omega)] at hq
      exact ⟨by rw [hL, hq], HS⟩

set_option maxRecDepth 100000 in
set_option maxHeartbeats 1000000 in
theorem crev (A : Option Addr) (n c : Nat) (xs : List Int) (W : World) (M : Nat → Prop) (HS : St W M W [row A n c (ci .i64 xs) 3 1]) (hn : xs.length = n) (hl : n ≤ 1099511627776) : Calls Try.prog 57 #[.slice A n c] W fun e W' => e = .returned (.tuple #[]) ∧ St W M W' [row A n c (ci .i64 xs.reverse) 3 1] := by
  refine calls_enter [.slice A n c, undef, undef, undef, undef, undef, undef, undef, undef, undef, undef, undef, undef, undef, undef, undef, undef, undef, undef, undef, undef, undef, undef, undef, undef, undef, undef, undef] Try.func57 rfl (by kernel_rfl) ?_
  refine wp_seq ?_
  refine wp_region_lit ?_
  refine ql (.slice A n c) (by kernel_rfl) (by kernel_rfl) ?_
  refine ql (.int .i64 (n : Int)) (by kernel_rfl) (by kernel_rfl) ?_
  refine ql (.int .i64 ((n : Int) - 1)) (by kernel_rfl) (R_int (by kernel_rfl) (w64 (by omega))) ?_
  refine ql (.int .i64 0) (by kernel_rfl) (by kernel_rfl) ?_
  refine ql (.int .i64 ((n : Int) - 1)) (by kernel_rfl) (by kernel_rfl) ?_
  refine wpList_nil ?_
  refine x_then ?_
  refine wp_block ?_
  refine wp_loop_ghost (fun kq a' w' => ∃ (J1 : Nat → Value) (i : Int) (j : Int) (ys : List Int) , a' = Fr [.slice A n c, undef, .int .i64 i, .int .i64 j, .slice A n c, .int .i64 (n : Int), .int .i64 ((n : Int) - 1), (J1 7), (J1 8), (J1 9), (J1 10), (J1 11), (J1 12), (J1 13), (J1 14), (J1 15), (J1 16), (J1 17), (J1 18), (J1 19), (J1 20), (J1 21), (J1 22), (J1 23), (J1 24), (J1 25), (J1 26), (J1 27)] ∧ kq = ((j - i + 1).toNat) ∧ (0 ≤ i) ∧ (i + j = (xs.length : Int) - 1) ∧ (i ≤ j + 1) ∧ (Rv xs ys i j) ∧ ((ys).length = n) ∧ St W M w' [row A n c (ci .i64 ys) 3 1]) ((((n : Int) - 1) - (0 : Int) + 1).toNat) ⟨(fun k_ : Nat => List.getD [.slice A n c, undef, .int .i64 0, .int .i64 ((n : Int) - 1), .slice A n c, .int .i64 (n : Int), .int .i64 ((n : Int) - 1), undef, undef, undef, undef, undef, undef, undef, undef, undef, undef, undef, undef, undef, undef, undef, undef, undef, undef, undef, undef, undef] k_ undef), (0 : Int), (n : Int) - 1, xs, congrArg Fr (by kernel_rfl), rfl, by omega, by omega, by omega, by rw [← hn]; exact rv_start xs, hn, HS⟩ ?_
  clear HS
  intro kq2 a' W3 hrel
  obtain ⟨J1, i, j, ys, rfl, hk, i0, hij, h9, hR, hyl, HS⟩ := hrel
  refine wp_seq ?_
  refine wp_seq ?_
  refine wp_region_lit ?_
  refine ql (.int .i64 i) (by kernel_rfl) (by kernel_rfl) ?_
  refine ql (.int .i64 j) (by kernel_rfl) (by kernel_rfl) ?_
  by_cases hc4 : i < j
  · skip
    refine ql (.bool true) (by kernel_rfl) (R_bool (p := i < j) (by kernel_rfl) (hc4)) ?_
    refine wpList_nil ?_
    refine x_then ?_
    refine wp_cond_true (by kernel_rfl) ?_
    refine wp_skip ?_
    refine x_then ?_
    refine wp_seq ?_
    refine wp_block ?_
    refine t_start HS (fun k_ => (row A n c (ci .i64 ys) 3 1).own k_) 16 (by kernel_rfl) rfl ?_
    intro W5 H_ HD_
    clear HD_
    replace HS : St W M W5 [row A n c (ci .i64 ys) 3 1] := H_
    clear H_
    have HV := HS
    have HK := Kpt.refl (fun k_ => (row A n c (ci .i64 ys) 3 1).own k_) W5
    refine t_q (n := 15) 0 (.slice A n c) rfl (by kernel_rfl) (by kernel_rfl) (fun _ _ _ h => h) (fun w' hk => (by kernel_rfl)) HK ?_
    refine t_q (n := 14) 1 (.int .i64 i) rfl (by kernel_rfl) (by kernel_rfl) (fun _ _ _ h => h) (fun w' hk => (by kernel_rfl)) HK ?_
    refine t_q (n := 13) 2 (.slice A n c) rfl (by kernel_rfl) (by kernel_rfl) (fun _ _ _ h => h) (fun w' hk => (by kernel_rfl)) HK ?_
    refine t_q (n := 12) 3 (.int .i64 j) rfl (by kernel_rfl) (by kernel_rfl) (fun _ _ _ h => h) (fun w' hk => (by kernel_rfl)) HK ?_
    refine t_q (n := 11) 4 (.slice A n c) rfl (by kernel_rfl) (by kernel_rfl) (fun _ _ _ h => h) (fun w' hk => (by kernel_rfl)) HK ?_
    refine t_q (n := 10) 5 (.int .i64 j) rfl (by kernel_rfl) (by kernel_rfl) (fun _ _ _ h => h) (fun w' hk => (by kernel_rfl)) HK ?_
    obtain ⟨g6, rfl⟩ := St.rsome HS (i := 0) rfl (by omega)
    refine t_q (n := 9) 6 (.pointer (some ⟨g6, j.toNat, none⟩)) rfl (by kernel_rfl) (by kernel_rfl) (fun _ _ _ h => h) (fun w' hk => (R_index1 (k := .i64) (g := g6) (n := n) (c := c) (i := j) (by kernel_rfl) (by kernel_rfl) Try.underlying28 (by kernel_rfl) (by omega) (by omega))) HK ?_
    refine t_q (n := 8) 8 (.slice (some ⟨g6, 0, none⟩) n c) rfl (by kernel_rfl) (by kernel_rfl) (fun _ _ _ h => h) (fun w' hk => (by kernel_rfl)) HK ?_
    refine t_q (n := 7) 9 (.int .i64 i) rfl (by kernel_rfl) (by kernel_rfl) (fun _ _ _ h => h) (fun w' hk => (by kernel_rfl)) HK ?_
    refine t_q (n := 6) 10 (.pointer (some ⟨g6, i.toNat, none⟩)) rfl (by kernel_rfl) (by kernel_rfl) (fun _ _ _ h => h) (fun w' hk => (R_index1 (k := .i64) (g := g6) (n := n) (c := c) (i := i) (by kernel_rfl) (by kernel_rfl) Try.underlying28 (by kernel_rfl) (by omega) (by omega))) HK ?_
    refine t_pick2 (n := 5) 7 11 (by kernel_rfl) ?_ ?_
    · skip
      refine t_e2 (n := 5) 7 (.int .i64 (rdI ys j)) rfl (by kernel_rfl) (R_load (p := ⟨g6, j.toNat, none⟩) (by kernel_rfl) (by kernel_rfl) (by kernel_rfl) (HS.rcell (i := 0) rfl (ci_rd (i := j) (by omega) (by omega)))) HK ?_
      refine t_e (n := 4) 11 (.int .i64 (rdI ys i)) rfl (by kernel_rfl) (by kernel_rfl) (R_load (p := ⟨g6, i.toNat, none⟩) (by kernel_rfl) (by kernel_rfl) (by kernel_rfl) (HS.rcell (i := 0) rfl (ci_rd (i := i) (by omega) (by omega)))) HK ?_
      refine t_q (n := 3) 12 (.pointer (some ⟨g6, i.toNat, none⟩)) rfl (by kernel_rfl) (by kernel_rfl) (fun _ _ _ h => h) (fun w' hk => (R_index1 (k := .i64) (g := g6) (n := n) (c := c) (i := i) (by kernel_rfl) (by kernel_rfl) Try.underlying28 (by kernel_rfl) (by omega) (by omega))) HK ?_
      obtain ⟨W7, hrun_, H_, hk_⟩ := ex_kr (P := Try.prog) (ty := 0) (ps := "slices.go:485") (af := #[{ on := 12, ground := Go.Ground.data }, { on := 7, ground := Go.Ground.data }, { on := 0, ground := Go.Ground.phase }, { on := 1, ground := Go.Ground.phase }, { on := 2, ground := (Go.Ground.textOnly Go.Departure.lateStores) }, { on := 3, ground := (Go.Ground.textOnly Go.Departure.lateStores) }, { on := 4, ground := Go.Ground.phase }, { on := 5, ground := Go.Ground.phase }, { on := 6, ground := Go.Ground.phase }, { on := 7, ground := Go.Ground.phase }, { on := 8, ground := (Go.Ground.textOnly Go.Departure.lateStores) }, { on := 9, ground := (Go.Ground.textOnly Go.Departure.lateStores) }, { on := 10, ground := (Go.Ground.textOnly Go.Departure.lateStoresUnsure) }, { on := 11, ground := Go.Ground.phase }]) (gd := none) (t := 3) (x := (Go.Operand.tmp 26)) (y := (Go.Operand.tmp 21)) (v := .int .i64 (rdI ys j)) HS 0 rfl (i.toNat) [.int .i64 (rdI ys j)] (by kernel_rfl) (by kernel_rfl) (by kernel_rfl) (by kernel_rfl) (one_ (by kernel_rfl)) (by rw [ci_len]; first | omega | (simp only [List.length_singleton]; omega))
      replace HK := HK.trans hk_ (fun _ h_ => .inl (row_own h_))
      refine t_s (n := 2) 13 rfl (by kernel_rfl) (by kernel_rfl) hrun_ HK ?_
      clear hk_ hrun_
      obtain ⟨xs8, xs8_⟩ : ∃ z_ : List Int, z_ = (ys).set i.toNat (rdI ys j) := ⟨_, rfl⟩
      replace HS : St W M W7 [row (some ⟨g6, 0, none⟩) n c (ci .i64 xs8) 3 1] := H_.cast_ (by rw [xs8_, ← ci_set]; rfl)
      clear H_
      have xs8l : xs8.length = n := by rw [xs8_, List.length_set]; first | done | omega
      refine t_q (n := 1) 14 (.pointer (some ⟨g6, j.toNat, none⟩)) rfl (by kernel_rfl) (by kernel_rfl) (fun _ _ _ h => h) (fun w' hk => (R_index1 (k := .i64) (g := g6) (n := n) (c := c) (i := j) (by kernel_rfl) (by kernel_rfl) Try.underlying28 (by kernel_rfl) (by omega) (by omega))) HK ?_
      obtain ⟨W9, hrun_, H_, hk_⟩ := ex_kr (P := Try.prog) (ty := 0) (ps := "slices.go:485") (af := #[{ on := 14, ground := Go.Ground.data }, { on := 11, ground := Go.Ground.data }, { on := 13, ground := Go.Ground.chain }, { on := 0, ground := Go.Ground.phase }, { on := 1, ground := Go.Ground.phase }, { on := 2, ground := Go.Ground.phase }, { on := 3, ground := Go.Ground.phase }, { on := 4, ground := Go.Ground.phase }, { on := 5, ground := Go.Ground.phase }, { on := 6, ground := Go.Ground.phase }, { on := 7, ground := Go.Ground.phase }, { on := 8, ground := Go.Ground.phase }, { on := 9, ground := Go.Ground.phase }, { on := 10, ground := Go.Ground.phase }, { on := 11, ground := Go.Ground.phase }, { on := 12, ground := Go.Ground.phase }, { on := 13, ground := Go.Ground.phase }]) (gd := none) (t := 3) (x := (Go.Operand.tmp 27)) (y := (Go.Operand.tmp 25)) (v := .int .i64 (rdI ys i)) HS 0 rfl (j.toNat) [.int .i64 (rdI ys i)] (by kernel_rfl) (by kernel_rfl) (by kernel_rfl) (by kernel_rfl) (one_ (by kernel_rfl)) (by rw [ci_len]; first | omega | (simp only [List.length_singleton]; omega))
      replace HK := HK.trans hk_ (fun _ h_ => .inl (row_own h_))
      refine t_s (n := 0) 15 rfl (by kernel_rfl) (by kernel_rfl) hrun_ HK ?_
      clear hk_ hrun_
      obtain ⟨xs10, xs10_⟩ : ∃ z_ : List Int, z_ = (xs8).set j.toNat (rdI ys i) := ⟨_, rfl⟩
      replace HS : St W M W9 [row (some ⟨g6, 0, none⟩) n c (ci .i64 xs10) 3 1] := H_.cast_ (by rw [xs10_, ← ci_set]; rfl)
      clear H_
      have xs10l : xs10.length = n := by rw [xs10_, List.length_set]; first | done | omega
      refine t_done (by kernel_rfl) ?_
      clear HV HK
      refine x_inb ?_
      refine x_then ?_
      refine wp_region_lit ?_
      refine ql (.int .i64 i) (by kernel_rfl) (by kernel_rfl) ?_
      refine ql (.int .i64 (i + 1)) (by kernel_rfl) (R_int (by kernel_rfl) (w64 (by omega))) ?_
      refine ql (.int .i64 j) (by kernel_rfl) (by kernel_rfl) ?_
      refine ql (.int .i64 (j - 1)) (by kernel_rfl) (R_int (by kernel_rfl) (w64 (by omega))) ?_
      refine ql (.int .i64 (i + 1)) (by kernel_rfl) (by kernel_rfl) ?_
      refine ql (.int .i64 (j - 1)) (by kernel_rfl) (by kernel_rfl) ?_
      refine wpList_nil ?_
      have hst := rv_step hR hij i0 (by omega) xs8_ xs10_
      refine x_then ?_
      exact ⟨((j - 1) - (i + 1) + 1).toNat, by omega, (fun k_ : Nat => List.getD [.slice (some ⟨g6, 0, none⟩) n c, undef, .int .i64 (i + 1), .int .i64 (j - 1), .slice (some ⟨g6, 0, none⟩) n c, .int .i64 (n : Int), .int .i64 ((n : Int) - 1), .int .i64 i, .int .i64 j, .bool true, .int .i64 i, .int .i64 (i + 1), .int .i64 j, .int .i64 (j - 1), .slice (some ⟨g6, 0, none⟩) n c, .int .i64 i, .slice (some ⟨g6, 0, none⟩) n c, .int .i64 j, .slice (some ⟨g6, 0, none⟩) n c, .int .i64 j, .pointer (some ⟨g6, j.toNat, none⟩), .int .i64 (rdI ys j), .slice (some ⟨g6, 0, none⟩) n c, .int .i64 i, .pointer (some ⟨g6, i.toNat, none⟩), .int .i64 (rdI ys i), .pointer (some ⟨g6, i.toNat, none⟩), .pointer (some ⟨g6, j.toNat, none⟩)] k_ undef), i + 1, j - 1, xs10, congrArg Fr (by kernel_rfl), rfl, by omega, by omega, by omega, hst, hst.1.trans hn, HS⟩
    · skip
      refine t_e2 (n := 5) 11 (.int .i64 (rdI ys i)) rfl (by kernel_rfl) (R_load (p := ⟨g6, i.toNat, none⟩) (by kernel_rfl) (by kernel_rfl) (by kernel_rfl) (HS.rcell (i := 0) rfl (ci_rd (i := i) (by omega) (by omega)))) HK ?_
      refine t_e (n := 4) 7 (.int .i64 (rdI ys j)) rfl (by kernel_rfl) (by kernel_rfl) (R_load (p := ⟨g6, j.toNat, none⟩) (by kernel_rfl) (by kernel_rfl) (by kernel_rfl) (HS.rcell (i := 0) rfl (ci_rd (i := j) (by omega) (by omega)))) HK ?_
      refine t_q (n := 3) 12 (.pointer (some ⟨g6, i.toNat, none⟩)) rfl (by kernel_rfl) (by kernel_rfl) (fun _ _ _ h => h) (fun w' hk => (R_index1 (k := .i64) (g := g6) (n := n) (c := c) (i := i) (by kernel_rfl) (by kernel_rfl) Try.underlying28 (by kernel_rfl) (by omega) (by omega))) HK ?_
      obtain ⟨W11, hrun_, H_, hk_⟩ := ex_kr (P := Try.prog) (ty := 0) (ps := "slices.go:485") (af := #[{ on := 12, ground := Go.Ground.data }, { on := 7, ground := Go.Ground.data }, { on := 0, ground := Go.Ground.phase }, { on := 1, ground := Go.Ground.phase }, { on := 2, ground := (Go.Ground.textOnly Go.Departure.lateStores) }, { on := 3, ground := (Go.Ground.textOnly Go.Departure.lateStores) }, { on := 4, ground := Go.Ground.phase }, { on := 5, ground := Go.Ground.phase }, { on := 6, ground := Go.Ground.phase }, { on := 7, ground := Go.Ground.phase }, { on := 8, ground := (Go.Ground.textOnly Go.Departure.lateStores) }, { on := 9, ground := (Go.Ground.textOnly Go.Departure.lateStores) }, { on := 10, ground := (Go.Ground.textOnly Go.Departure.lateStoresUnsure) }, { on := 11, ground := Go.Ground.phase }]) (gd := none) (t := 3) (x := (Go.Operand.tmp 26)) (y := (Go.Operand.tmp 21)) (v := .int .i64 (rdI ys j)) HS 0 rfl (i.toNat) [.int .i64 (rdI ys j)] (by kernel_rfl) (by kernel_rfl) (by kernel_rfl) (by kernel_rfl) (one_ (by kernel_rfl)) (by rw [ci_len]; first | omega | (simp only [List.length_singleton]; omega))
      replace HK := HK.trans hk_ (fun _ h_ => .inl (row_own h_))
      refine t_s (n := 2) 13 rfl (by kernel_rfl) (by kernel_rfl) hrun_ HK ?_
      clear hk_ hrun_
      obtain ⟨xs12, xs12_⟩ : ∃ z_ : List Int, z_ = (ys).set i.toNat (rdI ys j) := ⟨_, rfl⟩
      replace HS : St W M W11 [row (some ⟨g6, 0, none⟩) n c (ci .i64 xs12) 3 1] := H_.cast_ (by rw [xs12_, ← ci_set]; rfl)
      clear H_
      have xs12l : xs12.length = n := by rw [xs12_, List.length_set]; first | done | omega
      refine t_q (n := 1) 14 (.pointer (some ⟨g6, j.toNat, none⟩)) rfl (by kernel_rfl) (by kernel_rfl) (fun _ _ _ h => h) (fun w' hk => (R_index1 (k := .i64) (g := g6) (n := n) (c := c) (i := j) (by kernel_rfl) (by kernel_rfl) Try.underlying28 (by kernel_rfl) (by omega) (by omega))) HK ?_
      obtain ⟨W13, hrun_, H_, hk_⟩ := ex_kr (P := Try.prog) (ty := 0) (ps := "slices.go:485") (af := #[{ on := 14, ground := Go.Ground.data }, { on := 11, ground := Go.Ground.data }, { on := 13, ground := Go.Ground.chain }, { on := 0, ground := Go.Ground.phase }, { on := 1, ground := Go.Ground.phase }, { on := 2, ground := Go.Ground.phase }, { on := 3, ground := Go.Ground.phase }, { on := 4, ground := Go.Ground.phase }, { on := 5, ground := Go.Ground.phase }, { on := 6, ground := Go.Ground.phase }, { on := 7, ground := Go.Ground.phase }, { on := 8, ground := Go.Ground.phase }, { on := 9, ground := Go.Ground.phase }, { on := 10, ground := Go.Ground.phase }, { on := 11, ground := Go.Ground.phase }, { on := 12, ground := Go.Ground.phase }, { on := 13, ground := Go.Ground.phase }]) (gd := none) (t := 3) (x := (Go.Operand.tmp 27)) (y := (Go.Operand.tmp 25)) (v := .int .i64 (rdI ys i)) HS 0 rfl (j.toNat) [.int .i64 (rdI ys i)] (by kernel_rfl) (by kernel_rfl) (by kernel_rfl) (by kernel_rfl) (one_ (by kernel_rfl)) (by rw [ci_len]; first | omega | (simp only [List.length_singleton]; omega))
      replace HK := HK.trans hk_ (fun _ h_ => .inl (row_own h_))
      refine t_s (n := 0) 15 rfl (by kernel_rfl) (by kernel_rfl) hrun_ HK ?_
      clear hk_ hrun_
      obtain ⟨xs14, xs14_⟩ : ∃ z_ : List Int, z_ = (xs12).set j.toNat (rdI ys i) := ⟨_, rfl⟩
      replace HS : St W M W13 [row (some ⟨g6, 0, none⟩) n c (ci .i64 xs14) 3 1] := H_.cast_ (by rw [xs14_, ← ci_set]; rfl)
      clear H_
      have xs14l : xs14.length = n := by rw [xs14_, List.length_set]; first | done | omega
      refine t_done (by kernel_rfl) ?_
      clear HV HK
      refine x_inb ?_
      refine x_then ?_
      refine wp_region_lit ?_
      refine ql (.int .i64 i) (by kernel_rfl) (by kernel_rfl) ?_
      refine ql (.int .i64 (i + 1)) (by kernel_rfl) (R_int (by kernel_rfl) (w64 (by omega))) ?_
      refine ql (.int .i64 j) (by kernel_rfl) (by kernel_rfl) ?_
      refine ql (.int .i64 (j - 1)) (by kernel_rfl) (R_int (by kernel_rfl) (w64 (by omega))) ?_
      refine ql (.int .i64 (i + 1)) (by kernel_rfl) (by kernel_rfl) ?_
      refine ql (.int .i64 (j - 1)) (by kernel_rfl) (by kernel_rfl) ?_
      refine wpList_nil ?_
      have hst := rv_step hR hij i0 (by omega) xs12_ xs14_
      refine x_then ?_
      exact ⟨((j - 1) - (i + 1) + 1).toNat, by omega, (fun k_ : Nat => List.getD [.slice (some ⟨g6, 0, none⟩) n c, undef, .int .i64 (i + 1), .int .i64 (j - 1), .slice (some ⟨g6, 0, none⟩) n c, .int .i64 (n : Int), .int .i64 ((n : Int) - 1), .int .i64 i, .int .i64 j, .bool true, .int .i64 i, .int .i64 (i + 1), .int .i64 j, .int .i64 (j - 1), .slice (some ⟨g6, 0, none⟩) n c, .int .i64 i, .slice (some ⟨g6, 0, none⟩) n c, .int .i64 j, .slice (some ⟨g6, 0, none⟩) n c, .int .i64 j, .pointer (some ⟨g6, j.toNat, none⟩), .int .i64 (rdI ys j), .slice (some ⟨g6, 0, none⟩) n c, .int .i64 i, .pointer (some ⟨g6, i.toNat, none⟩), .int .i64 (rdI ys i), .pointer (some ⟨g6, i.toNat, none⟩), .pointer (some ⟨g6, j.toNat, none⟩)] k_ undef), i + 1, j - 1, xs14, congrArg Fr (by kernel_rfl), rfl, by omega, by omega, by omega, hst, hst.1.trans hn, HS⟩
  · skip
    refine ql (.bool false) (by kernel_rfl) (R_nbool (p := i < j) (by kernel_rfl) (hc4)) ?_
    refine wpList_nil ?_
    refine x_then ?_
    refine wp_cond_false (by kernel_rfl) ?_
    refine wp_exit ?_
    refine x_thenE ?_
    refine x_thenE ?_
    refine x_hit ?_
    refine end_ (.tuple #[]) (by kernel_rfl) ?_
    have hre := rv_end hR hij (by omega) h9
    subst hre
    exact ⟨rfl, HS⟩

set_option maxRecDepth 100000 in
set_option maxHeartbeats 1000000 in
theorem cclone_nil (c : Nat) (W : World) : Calls Try.prog 59 #[.slice none 0 c] W fun e W' => e = .returned (.slice none 0 0) ∧ St W (owns []) W' [] := by
  have HS : St W (owns []) W [] := St.start W _
  refine calls_enter [.slice none 0 c, undef, undef, undef, undef, undef, undef, undef] Try.func59 rfl (by kernel_rfl) ?_
  refine wp_seq ?_
  refine wp_region_lit ?_
  refine ql (.slice none 0 0) (by kernel_rfl) (by kernel_rfl) ?_
  refine wpList_nil ?_
  refine x_then ?_
  refine wp_seq ?_
  refine wp_seq ?_
  refine wp_region_lit ?_
  refine ql (.slice none 0 c) (by kernel_rfl) (by kernel_rfl) ?_
  refine ql (.bool true) (by kernel_rfl) (by kernel_rfl) ?_
  refine wpList_nil ?_
  refine x_then ?_
  refine wp_cond_true (by kernel_rfl) ?_
  refine wp_seq ?_
  refine wp_region_lit ?_
  refine ql (.slice none 0 0) (by kernel_rfl) (by kernel_rfl) ?_
  refine wpList_nil ?_
  refine x_then ?_
  refine wp_ret ?_
  refine x_thenR ?_
  refine ret_ (.slice none 0 0) (by kernel_rfl) ?_
  exact ⟨rfl, HS⟩

set_option maxRecDepth 100000 in
set_option maxHeartbeats 1000000 in
theorem cclone_some (ad : Addr) (c : Nat) (xs : List Int) (W : World) (hr : Rd W (some ad) (ci .i64 xs)) (hl : xs.length ≤ 1099511627776) : Calls Try.prog 59 #[.slice (some ad) xs.length c] W fun e W' => ∃ A' c', e = .returned (.slice A' xs.length c') ∧ St W (owns []) W' [row A' xs.length c' (ci .i64 xs) 3 1] := by
  have HS : St W (owns []) W [] := St.start W _
  refine calls_enter [.slice (some ad) xs.length c, undef, undef, undef, undef, undef, undef, undef] Try.func59 rfl (by kernel_rfl) ?_
  refine wp_seq ?_
  refine wp_region_lit ?_
  refine ql (.slice none 0 0) (by kernel_rfl) (by kernel_rfl) ?_
  refine wpList_nil ?_
  refine x_then ?_
  refine wp_seq ?_
  refine wp_seq ?_
  refine wp_region_lit ?_
  refine ql (.slice (some ad) xs.length c) (by kernel_rfl) (by kernel_rfl) ?_
  refine ql (.bool false) (by kernel_rfl) (by kernel_rfl) ?_
  refine wpList_nil ?_
  refine x_then ?_
  refine wp_cond_false (by kernel_rfl) ?_
  refine wp_skip ?_
  refine x_then ?_
  refine wp_seq ?_
  refine wp_region_lit ?_
  refine kl HS 0 [] 3 1 (by kernel_rfl) (by kernel_rfl) rfl (by decide) ?_
  intro g1 W2 H_
  replace HS : St W (owns []) W2 [row (some ⟨g1, 0, none⟩) 0 0 (ci .i64 ([])) 3 1] := H_.cast_ (by kernel_rfl)
  clear H_
  refine ql (.slice (some ad) xs.length c) (by kernel_rfl) (by kernel_rfl) ?_
  obtain ⟨xs6, xs6_⟩ : ∃ z_ : List Int, z_ = ([]) ++ xs := ⟨_, rfl⟩
  have xs6l : xs6.length = 0 + xs.length := by rw [xs6_, List.length_append] <;> (try simp only [List.length_cons, List.length_nil]) <;> omega
  refine ka1 HS 0 rfl (Src.of_rd' (n := xs.length) (c := c) (z := 1) (hr.old0 HS) (by rw [ci_len]; omega) (by decide) ci_one) [.int .i64 0] 8 xs6.length (ci .i64 xs6) (by omega) (by rw [xs6_, ci_app]) (by kernel_rfl) (by kernel_rfl) (by kernel_rfl) Try.underlying28 (by kernel_rfl) (by kernel_rfl) (by kernel_rfl) (by kernel_rfl) (by decide) (by omega) (by omega) ?_
  intro A3 c4 W5 H_
  replace HS : St W (owns []) W5 [row A3 xs6.length c4 (ci .i64 xs6) 3 1] := H_
  clear H_
  refine ql (.slice A3 xs6.length c4) (by kernel_rfl) (by kernel_rfl) ?_
  refine wpList_nil ?_
  refine x_then ?_
  refine wp_ret ?_
  refine ret_ (.slice A3 xs6.length c4) (by kernel_rfl) ?_
  obtain rfl : xs6 = xs := by rw [xs6_]; simp
  exact ⟨_, _, rfl, HS⟩

theorem cclone (A : Option Addr) (c : Nat) (xs : List Int) (W : World) (hr : Rd W A (ci .i64 xs)) (hl : xs.length ≤ 1099511627776) : Calls Try.prog 59 #[.slice A xs.length c] W fun e W' => ∃ A' c', e = .returned (.slice A' xs.length c') ∧ St W (owns []) W' [row A' xs.length c' (ci .i64 xs) 3 1] := by
  rcases A with _ | ad
  · have h0 : xs = [] := by
      cases xs with
      | nil => rfl
      | cons x xs => obtain ⟨ad, e, _⟩ := hr 0 (.int .i64 x) (by simp [ci]); cases e
    subst h0
    refine (cclone_nil c W).mono ?_
    rintro e W' ⟨he, hs⟩
    exact ⟨none, 0, he, (hs.nilRow 3 1).cast_ (by rw [ci_nil]; rfl)⟩
  · exact cclone_some ad c xs W hr hl

set_option maxRecDepth 100000 in
set_option maxHeartbeats 1000000 in
theorem cless (A B : Option Addr) (c d : Nat) (xs ys : List Int) (W : World) (hr : Rd W A (ci .i64 xs)) (hs : Rd W B (ci .i64 ys)) (hl : xs.length ≤ 1099511627776) (hl2 : ys.length ≤ 1099511627776) : Calls Try.prog 45 #[.slice A xs.length c, .slice B ys.length d] W fun e W' => e = .returned (.bool (decide (lx xs.reverse ys.reverse < 0))) ∧ St W (owns []) W' [] := by
  have HS : St W (owns []) W [] := St.start W _
  refine calls_enter [.slice A xs.length c, .slice B ys.length d, undef, undef, undef, undef, undef, undef, undef, undef, undef, undef, undef, undef, undef, undef, undef, undef, undef] Try.func45 rfl (by kernel_rfl) ?_
  refine wp_seq ?_
  refine wp_region_lit ?_
  refine ql (.bool false) (by kernel_rfl) (by kernel_rfl) ?_
  refine wpList_nil ?_
  refine x_then ?_
  refine wp_seq ?_
  refine wp_region_lit ?_
  refine ql (.slice A xs.length c) (by kernel_rfl) (by kernel_rfl) ?_
  refine qc (f := 59) (args := #[.slice A xs.length c]) (by kernel_rfl) (R_call #[.slice A xs.length c] Try.func59 (by kernel_rfl) (by kernel_rfl) (by kernel_rfl)) ?_
  refine (cclone A c xs _ (hr.old0 HS) (by omega)).mono ?_
  rintro e W1 ⟨A1, c1, rfl, H_⟩
  refine ⟨_, rfl, ?_⟩
  replace HS : St W (owns []) W1 [row A1 xs.length c1 (ci .i64 xs) 3 1] := HS.join (F := []) (G := [row A1 xs.length c1 (ci .i64 xs) 3 1]) H_
  clear H_
  refine ql (.slice B ys.length d) (by kernel_rfl) (by kernel_rfl) ?_
  refine qc (f := 59) (args := #[.slice B ys.length d]) (by kernel_rfl) (R_call #[.slice B ys.length d] Try.func59 (by kernel_rfl) (by kernel_rfl) (by kernel_rfl)) ?_
  refine (cclone B d ys _ (hs.old0 HS) (by omega)).mono ?_
  rintro e W2 ⟨B1, d1, rfl, H_⟩
  refine ⟨_, rfl, ?_⟩
  replace HS : St W (owns []) W2 [row B1 ys.length d1 (ci .i64 ys) 3 1, row A1 xs.length c1 (ci .i64 xs) 3 1] := HS.join (F := []) (G := [row B1 ys.length d1 (ci .i64 ys) 3 1]) H_
  clear H_
  refine ql (.slice A1 xs.length c1) (by kernel_rfl) (by kernel_rfl) ?_
  refine ql (.slice B1 ys.length d1) (by kernel_rfl) (by kernel_rfl) ?_
  refine wpList_nil ?_
  refine x_then ?_
  refine wp_seq ?_
  refine wp_region_lit ?_
  refine ql (.slice A1 xs.length c1) (by kernel_rfl) (by kernel_rfl) ?_
  refine qc (f := 57) (args := #[.slice A1 xs.length c1]) (by kernel_rfl) (R_call #[.slice A1 xs.length c1] Try.func57 (by kernel_rfl) (by kernel_rfl) (by kernel_rfl)) ?_
  replace HS : St W (owns []) W2 [row A1 xs.length c1 (ci .i64 xs) 3 1, row B1 ys.length d1 (ci .i64 ys) 3 1] := HS.perm (perm_ [1, 0] (by kernel_rfl) rfl)
  refine (crev A1 xs.length c1 xs _ _ (St.focus (F := [row A1 xs.length c1 (ci .i64 xs) 3 1]) HS) rfl (by omega)).mono ?_
  rintro e W3 ⟨rfl, H_⟩
  refine ⟨_, rfl, ?_⟩
  replace HS : St W (owns []) W3 [row A1 xs.length c1 (ci .i64 xs.reverse) 3 1, row B1 ys.length d1 (ci .i64 ys) 3 1] := HS.join (F := [row A1 xs.length c1 (ci .i64 xs) 3 1]) (G := [row A1 xs.length c1 (ci .i64 xs.reverse) 3 1]) H_
  clear H_
  refine wpList_nil ?_
  refine x_then ?_
  refine wp_seq ?_
  refine wp_region_lit ?_
  refine ql (.slice B1 ys.length d1) (by kernel_rfl) (by kernel_rfl) ?_
  refine qc (f := 57) (args := #[.slice B1 ys.length d1]) (by kernel_rfl) (R_call #[.slice B1 ys.length d1] Try.func57 (by kernel_rfl) (by kernel_rfl) (by kernel_rfl)) ?_
  replace HS : St W (owns []) W3 [row B1 ys.length d1 (ci .i64 ys) 3 1, row A1 xs.length c1 (ci .i64 xs.reverse) 3 1] := HS.perm (perm_ [1, 0] (by kernel_rfl) rfl)
  refine (crev B1 ys.length d1 ys _ _ (St.focus (F := [row B1 ys.length d1 (ci .i64 ys) 3 1]) HS) rfl (by omega)).mono ?_
  rintro e W4 ⟨rfl, H_⟩
  refine ⟨_, rfl, ?_⟩
  replace HS : St W (owns []) W4 [row B1 ys.length d1 (ci .i64 ys.reverse) 3 1, row A1 xs.length c1 (ci .i64 xs.reverse) 3 1] := HS.join (F := [row B1 ys.length d1 (ci .i64 ys) 3 1]) (G := [row B1 ys.length d1 (ci .i64 ys.reverse) 3 1]) H_
  clear H_
  refine wpList_nil ?_
  refine x_then ?_
  refine wp_seq ?_
  refine wp_region_lit ?_
  refine ql (.slice A1 xs.length c1) (by kernel_rfl) (by kernel_rfl) ?_
  refine ql (.slice B1 ys.length d1) (by kernel_rfl) (by kernel_rfl) ?_
  refine qc (f := 60) (args := #[.slice A1 xs.length c1, .slice B1 ys.length d1]) (by kernel_rfl) (R_call #[.slice A1 xs.length c1, .slice B1 ys.length d1] Try.func60 (by kernel_rfl) (by kernel_rfl) (by kernel_rfl)) ?_
  refine (ccompare A1 B1 _ _ c1 d1 xs.reverse ys.reverse _ (Rd.row HS (i := 1) rfl) (Rd.row HS (i := 0) rfl) List.length_reverse List.length_reverse (by rw [List.length_reverse]; omega) (by rw [List.length_reverse]; omega)).mono ?_
  rintro e W5 ⟨rfl, H_⟩
  refine ⟨_, rfl, ?_⟩
  replace HS : St W (owns []) W5 [row B1 ys.length d1 (ci .i64 ys.reverse) 3 1, row A1 xs.length c1 (ci .i64 xs.reverse) 3 1] := HS.join (F := []) (G := []) H_
  clear H_
  by_cases hc6 : (lx xs.reverse ys.reverse) < (0 : Int)
  · skip
    refine ql (.bool true) (by kernel_rfl) (R_bool (p := (lx xs.reverse ys.reverse) < (0 : Int)) (by kernel_rfl) (hc6)) ?_
    refine ql (.bool true) (by kernel_rfl) (by kernel_rfl) ?_
    refine wpList_nil ?_
    refine x_then ?_
    refine wp_ret ?_
    refine ret_ (.bool true) (by kernel_rfl) ?_
    replace HS := HS.drop1
    replace HS := HS.drop1
    exact ⟨by rw [decide_eq_true hc6], HS⟩
  · skip
    refine ql (.bool false) (by kernel_rfl) (R_nbool (p := (lx xs.reverse ys.reverse) < (0 : Int)) (by kernel_rfl) (hc6)) ?_
    refine ql (.bool false) (by kernel_rfl) (by kernel_rfl) ?_
    refine wpList_nil ?_
    refine x_then ?_
    refine wp_ret ?_
    refine ret_ (.bool false) (by kernel_rfl) ?_
    replace HS := HS.drop1
    replace HS := HS.drop1
    exact ⟨by rw [decide_eq_false hc6], HS⟩

set_option maxRecDepth 100000 in
set_option maxHeartbeats 1000000 in
theorem rless (A B : Option Addr) (c d : Nat) (xs ys : List Int) (W : World) (hr : Rd W A (ci .i64 xs)) (hs : Rd W B (ci .i64 ys)) (hl : xs.length ≤ 1099511627776) (hl2 : ys.length ≤ 1099511627776) : Calls Try.prog 46 #[.slice A xs.length c, .slice B ys.length d] W fun e W' => e = .returned (.bool (decide (lx xs.reverse ys.reverse < 0))) ∧ St W (owns []) W' [] := by
  have HS : St W (owns []) W [] := St.start W _
  have hlx : xs.reverse.length = xs.length := List.length_reverse
  have hly : ys.reverse.length = ys.length := List.length_reverse
  refine calls_enter ((.slice A xs.length c) :: (.slice B ys.length d) :: undef :: undef :: undef :: undef :: undef :: undef :: undef :: undef :: undef :: undef :: undef :: undef :: undef :: undef :: undef :: undef :: undef :: undef :: undef :: undef :: undef :: undef :: undef :: undef :: undef :: undef :: undef :: undef :: undef :: undef :: undef :: undef :: undef :: undef :: undef :: undef :: undef :: undef :: undef :: undef :: undef :: undef :: undef :: undef :: undef :: undef :: undef :: undef :: undef :: undef :: undef :: []) Try.func46 rfl (by kernel_rfl) ?_
  refine wp_seq ?_
  refine wp_region_lit ?_
  refine ql (.bool false) (by kernel_rfl) (by kernel_rfl) ?_
  refine wpList_nil ?_
  refine x_then ?_
  refine wp_seq ?_
  refine wp_seq ?_
  refine wp_region_lit ?_
  refine ql (.int .i64 1) (by kernel_rfl) (by kernel_rfl) ?_
  refine wpList_nil ?_
  refine x_then ?_
  refine wp_block ?_
  refine wp_loop_ghost (fun kq a' w' => ∃ (J1 : Nat → Value) (k : Int) , a' = Fr ((.slice A xs.length c) :: (.slice B ys.length d) :: undef :: undef :: ((J1 4)) :: (.int .i64 k) :: ((J1 6)) :: ((J1 7)) :: ((J1 8)) :: ((J1 9)) :: ((J1 10)) :: ((J1 11)) :: ((J1 12)) :: ((J1 13)) :: ((J1 14)) :: ((J1 15)) :: ((J1 16)) :: ((J1 17)) :: ((J1 18)) :: ((J1 19)) :: ((J1 20)) :: ((J1 21)) :: ((J1 22)) :: ((J1 23)) :: ((J1 24)) :: ((J1 25)) :: ((J1 26)) :: ((J1 27)) :: ((J1 28)) :: ((J1 29)) :: ((J1 30)) :: ((J1 31)) :: ((J1 32)) :: ((J1 33)) :: ((J1 34)) :: ((J1 35)) :: ((J1 36)) :: ((J1 37)) :: ((J1 38)) :: ((J1 39)) :: ((J1 40)) :: ((J1 41)) :: ((J1 42)) :: ((J1 43)) :: ((J1 44)) :: ((J1 45)) :: ((J1 46)) :: ((J1 47)) :: undef :: undef :: undef :: undef :: undef :: []) ∧ kq = ((xs.length + 1 - k).toNat) ∧ (1 ≤ k) ∧ (lx xs.reverse ys.reverse = lx (xs.reverse.drop (k - 1).toNat) (ys.reverse.drop (k - 1).toNat)) ∧ (k ≤ xs.length + 1) ∧ (k ≤ ys.length + 1) ∧ St W (owns []) w' []) ((xs.length + 1 - (1 : Int)).toNat) ⟨(fun k_ : Nat => List.getD ((.slice A xs.length c) :: (.slice B ys.length d) :: undef :: undef :: (.bool false) :: (.int .i64 1) :: undef :: undef :: undef :: undef :: undef :: undef :: undef :: undef :: undef :: undef :: undef :: undef :: undef :: undef :: undef :: undef :: undef :: undef :: undef :: undef :: undef :: undef :: undef :: undef :: undef :: undef :: undef :: undef :: undef :: undef :: undef :: undef :: undef :: undef :: undef :: undef :: undef :: undef :: undef :: undef :: undef :: undef :: undef :: undef :: undef :: undef :: undef :: []) k_ undef), (1 : Int), congrArg Fr (by kernel_rfl), rfl, by omega, by rfl, by omega, by omega, HS⟩ ?_
  clear HS
  intro kq2 a' W3 hrel
  obtain ⟨J1, k, rfl, hk, k1, hL, k2, k3, HS⟩ := hrel
  refine wp_seq ?_
  refine wp_seq ?_
  refine wp_region_lit ?_
  refine ql (.int .i64 k) (by kernel_rfl) (by kernel_rfl) ?_
  refine ql (.slice A xs.length c) (by kernel_rfl) (by kernel_rfl) ?_
  refine ql (.int .i64 (xs.length : Int)) (by kernel_rfl) (by kernel_rfl) ?_
  by_cases hc4 : k ≤ (xs.length : Int)
  · skip
    refine ql (.bool true) (by kernel_rfl) (R_bool (p := k ≤ (xs.length : Int)) (by kernel_rfl) (hc4)) ?_
    refine ql (.bool true) (by kernel_rfl) (by kernel_rfl) ?_
    refine ql (.int .i64 k) (by kernel_rfl) (by kernel_rfl) ?_
    refine ql (.slice B ys.length d) (by kernel_rfl) (by kernel_rfl) ?_
    refine ql (.int .i64 (ys.length : Int)) (by kernel_rfl) (by kernel_rfl) ?_
    by_cases hc5 : k ≤ (ys.length : Int)
    · skip
      refine ql (.bool true) (by kernel_rfl) (R_bool (p := k ≤ (ys.length : Int)) (by kernel_rfl) (hc5)) ?_
      refine ql (.bool true) (by kernel_rfl) (by kernel_rfl) ?_
      refine wpList_nil ?_
      refine x_then ?_
      refine wp_cond_true (by kernel_rfl) ?_
      refine wp_skip ?_
      refine x_then ?_
      refine wp_seq ?_
      refine wp_block ?_
      refine wp_seq ?_
      have hx := rd_rev (xs := xs) (p := k - 1) (by omega) (by omega)
      have hy := rd_rev (xs := ys) (p := k - 1) (by omega) (by omega)
      rw [show (xs.length : Int) - 1 - (k - 1) = (xs.length : Int) - k by omega] at hx
      rw [show (ys.length : Int) - 1 - (k - 1) = (ys.length : Int) - k by omega] at hy
      refine rg_still HS 14 (by kernel_rfl) (by kernel_rfl) ?_
      intro W6 H_ HK_
      simp only [List.take_succ_cons, List.take_zero, List.drop_succ_cons, List.drop_zero]
      replace HS : St W (owns []) W6 [] := H_
      clear H_
      clear HK_
      refine qs (.slice A xs.length c) (by kernel_rfl) (by kernel_rfl) ?_
      refine qs (.slice A xs.length c) (by kernel_rfl) (by kernel_rfl) ?_
      refine qs (.int .i64 (xs.length : Int)) (by kernel_rfl) (by kernel_rfl) ?_
      refine qs (.int .i64 k) (by kernel_rfl) (by kernel_rfl) ?_
      refine qs (.int .i64 ((xs.length : Int) - k)) (by kernel_rfl) (R_int (by kernel_rfl) (w64 (by omega))) ?_
      obtain ⟨ad7, rfl⟩ := Rd.isSome_ hr (by rw [ci_len]; omega)
      refine qs (.pointer (some (ad7.add ((xs.length : Int) - k).toNat))) (by kernel_rfl) (R_indexA1 (k := .i64) (p := ad7) (n := xs.length) (c := c) (i := (xs.length : Int) - k) (by kernel_rfl) (by kernel_rfl) Try.underlying28 (by kernel_rfl) (by omega) (by omega)) ?_
      refine qs (.int .i64 (rdI xs ((xs.length : Int) - k))) (by kernel_rfl) (R_load (p := ad7.add ((xs.length : Int) - k).toNat) (by kernel_rfl) (by kernel_rfl) (by kernel_rfl) (HS.old0 (hr.at_ (ci_rd (i := (xs.length : Int) - k) (by omega) (by omega))))) ?_
      refine qs (.slice B ys.length d) (by kernel_rfl) (by kernel_rfl) ?_
      refine qs (.slice B ys.length d) (by kernel_rfl) (by kernel_rfl) ?_
      refine qs (.int .i64 (ys.length : Int)) (by kernel_rfl) (by kernel_rfl) ?_
      refine qs (.int .i64 k) (by kernel_rfl) (by kernel_rfl) ?_
      refine qs (.int .i64 ((ys.length : Int) - k)) (by kernel_rfl) (R_int (by kernel_rfl) (w64 (by omega))) ?_
      obtain ⟨ad8, rfl⟩ := Rd.isSome_ hs (by rw [ci_len]; omega)
      refine qs (.pointer (some (ad8.add ((ys.length : Int) - k).toNat))) (by kernel_rfl) (R_indexA1 (k := .i64) (p := ad8) (n := ys.length) (c := d) (i := (ys.length : Int) - k) (by kernel_rfl) (by kernel_rfl) Try.underlying28 (by kernel_rfl) (by omega) (by omega)) ?_
      refine qs (.int .i64 (rdI ys ((ys.length : Int) - k))) (by kernel_rfl) (R_load (p := ad8.add ((ys.length : Int) - k).toNat) (by kernel_rfl) (by kernel_rfl) (by kernel_rfl) (HS.old0 (hs.at_ (ci_rd (i := (ys.length : Int) - k) (by omega) (by omega))))) ?_
      refine wpStill_nil ?_
      by_cases hc9 : (rdI xs ((xs.length : Int) - k)) = (rdI ys ((ys.length : Int) - k))
      · skip
        refine ql (.bool false) (by kernel_rfl) (R_beq (b := (rdI xs ((xs.length : Int) - k) != rdI ys ((ys.length : Int) - k))) (by kernel_rfl) (bne_f (hc9))) ?_
        refine wpList_nil ?_
        refine x_then ?_
        refine wp_cond_false (by kernel_rfl) ?_
        refine wp_skip ?_
        refine x_inb ?_
        refine x_then ?_
        refine wp_region_lit ?_
        refine ql (.int .i64 k) (by kernel_rfl) (by kernel_rfl) ?_
        refine ql (.int .i64 (k + 1)) (by kernel_rfl) (R_int (by kernel_rfl) (w64 (by omega))) ?_
        refine ql (.int .i64 (k + 1)) (by kernel_rfl) (by kernel_rfl) ?_
        refine wpList_nil ?_
        have hst := lx_step (xs := xs.reverse) (ys := ys.reverse) (i := k - 1) (by omega) (by omega) (by omega) (by omega)
        rw [show k - 1 + 1 = k + 1 - 1 by omega] at hst
        refine x_then ?_
        exact ⟨(xs.length + 1 - (k + 1)).toNat, by omega, (fun k_ : Nat => List.getD ((.slice (some ad7) xs.length c) :: (.slice (some ad8) ys.length d) :: undef :: undef :: ((J1 4)) :: (.int .i64 (k + 1)) :: (.int .i64 k) :: (.slice (some ad7) xs.length c) :: (.int .i64 (xs.length : Int)) :: (.bool true) :: (.bool true) :: (.int .i64 k) :: (.slice (some ad8) ys.length d) :: (.int .i64 (ys.length : Int)) :: (.bool true) :: (.bool true) :: (.int .i64 k) :: (.int .i64 (k + 1)) :: (.slice (some ad7) xs.length c) :: (.slice (some ad7) xs.length c) :: (.int .i64 (xs.length : Int)) :: (.int .i64 k) :: (.int .i64 ((xs.length : Int) - k)) :: (.pointer (some (ad7.add ((xs.length : Int) - k).toNat))) :: (.int .i64 (rdI xs ((xs.length : Int) - k))) :: (.slice (some ad8) ys.length d) :: (.slice (some ad8) ys.length d) :: (.int .i64 (ys.length : Int)) :: (.int .i64 k) :: (.int .i64 ((ys.length : Int) - k)) :: (.pointer (some (ad8.add ((ys.length : Int) - k).toNat))) :: (.int .i64 (rdI ys ((ys.length : Int) - k))) :: (.bool false) :: ((J1 33)) :: ((J1 34)) :: ((J1 35)) :: ((J1 36)) :: ((J1 37)) :: ((J1 38)) :: ((J1 39)) :: ((J1 40)) :: ((J1 41)) :: ((J1 42)) :: ((J1 43)) :: ((J1 44)) :: ((J1 45)) :: ((J1 46)) :: ((J1 47)) :: undef :: undef :: undef :: undef :: undef :: []) k_ undef), k + 1, congrArg Fr (by kernel_rfl), rfl, by omega, hL.trans hst, by omega, by omega, HS⟩
      · skip
        refine ql (.bool true) (by kernel_rfl) (R_beq (b := (rdI xs ((xs.length : Int) - k) != rdI ys ((ys.length : Int) - k))) (by kernel_rfl) (bne_t (hc9))) ?_
        refine wpList_nil ?_
        refine x_then ?_
        refine wp_cond_true (by kernel_rfl) ?_
        refine wp_seq ?_
        refine rg_still HS 15 (by kernel_rfl) (by kernel_rfl) ?_
        intro W10 H_ HK_
        simp only [List.take_succ_cons, List.take_zero, List.drop_succ_cons, List.drop_zero]
        replace HS : St W (owns []) W10 [] := H_
        clear H_
        clear HK_
        refine qs (.slice (some ad7) xs.length c) (by kernel_rfl) (by kernel_rfl) ?_
        refine qs (.slice (some ad7) xs.length c) (by kernel_rfl) (by kernel_rfl) ?_
        refine qs (.int .i64 (xs.length : Int)) (by kernel_rfl) (by kernel_rfl) ?_
        refine qs (.int .i64 k) (by kernel_rfl) (by kernel_rfl) ?_
        refine qs (.int .i64 ((xs.length : Int) - k)) (by kernel_rfl) (R_int (by kernel_rfl) (w64 (by omega))) ?_
        refine qs (.pointer (some (ad7.add ((xs.length : Int) - k).toNat))) (by kernel_rfl) (R_indexA1 (k := .i64) (p := ad7) (n := xs.length) (c := c) (i := (xs.length : Int) - k) (by kernel_rfl) (by kernel_rfl) Try.underlying28 (by kernel_rfl) (by omega) (by omega)) ?_
        refine qs (.int .i64 (rdI xs ((xs.length : Int) - k))) (by kernel_rfl) (R_load (p := ad7.add ((xs.length : Int) - k).toNat) (by kernel_rfl) (by kernel_rfl) (by kernel_rfl) (HS.old0 (hr.at_ (ci_rd (i := (xs.length : Int) - k) (by omega) (by omega))))) ?_
        refine qs (.slice (some ad8) ys.length d) (by kernel_rfl) (by kernel_rfl) ?_
        refine qs (.slice (some ad8) ys.length d) (by kernel_rfl) (by kernel_rfl) ?_
        refine qs (.int .i64 (ys.length : Int)) (by kernel_rfl) (by kernel_rfl) ?_
        refine qs (.int .i64 k) (by kernel_rfl) (by kernel_rfl) ?_
        refine qs (.int .i64 ((ys.length : Int) - k)) (by kernel_rfl) (R_int (by kernel_rfl) (w64 (by omega))) ?_
        refine qs (.pointer (some (ad8.add ((ys.length : Int) - k).toNat))) (by kernel_rfl) (R_indexA1 (k := .i64) (p := ad8) (n := ys.length) (c := d) (i := (ys.length : Int) - k) (by kernel_rfl) (by kernel_rfl) Try.underlying28 (by kernel_rfl) (by omega) (by omega)) ?_
        refine qs (.int .i64 (rdI ys ((ys.length : Int) - k))) (by kernel_rfl) (R_load (p := ad8.add ((ys.length : Int) - k).toNat) (by kernel_rfl) (by kernel_rfl) (by kernel_rfl) (HS.old0 (hs.at_ (ci_rd (i := (ys.length : Int) - k) (by omega) (by omega))))) ?_
        by_cases hc11 : (rdI xs ((xs.length : Int) - k)) < (rdI ys ((ys.length : Int) - k))
        · skip
          refine qs (.bool true) (by kernel_rfl) (R_bool (p := (rdI xs ((xs.length : Int) - k)) < (rdI ys ((ys.length : Int) - k))) (by kernel_rfl) (hc11)) ?_
          refine wpStill_nil ?_
          refine ql (.bool true) (by kernel_rfl) (by kernel_rfl) ?_
          refine wpList_nil ?_
          refine x_then ?_
          refine wp_ret ?_
          refine x_inbR ?_
          refine x_thenR ?_
          refine x_thenR ?_
          refine x_inbR ?_
          refine x_thenR ?_
          refine ret_ (.bool true) (by kernel_rfl) ?_
          have hq : lx (xs.reverse.drop (k - 1).toNat) (ys.reverse.drop (k - 1).toNat) = -1 := lx_lt (by omega) (by omega) (by omega) (by omega)
          exact ⟨by rw [decide_eq_true (by rw [hL]; omega)], HS⟩
        · skip
          refine qs (.bool false) (by kernel_rfl) (R_nbool (p := (rdI xs ((xs.length : Int) - k)) < (rdI ys ((ys.length : Int) - k))) (by kernel_rfl) (hc11)) ?_
          refine wpStill_nil ?_
          refine ql (.bool false) (by kernel_rfl) (by kernel_rfl) ?_
          refine wpList_nil ?_
          refine x_then ?_
          refine wp_ret ?_
          refine x_inbR ?_
          refine x_thenR ?_
          refine x_thenR ?_
          refine x_inbR ?_
          refine x_thenR ?_
          refine ret_ (.bool false) (by kernel_rfl) ?_
          have hq : lx (xs.reverse.drop (k - 1).toNat) (ys.reverse.drop (k - 1).toNat) = 1 := lx_gt (by omega) (by omega) (by omega) (by omega)
          exact ⟨by rw [decide_eq_false (by rw [hL]; omega)], HS⟩
    · skip
      refine ql (.bool false) (by kernel_rfl) (R_nbool (p := k ≤ (ys.length : Int)) (by kernel_rfl) (hc5)) ?_
      refine ql (.bool false) (by kernel_rfl) (by kernel_rfl) ?_
      refine wpList_nil ?_
      refine x_then ?_
      refine wp_cond_false (by kernel_rfl) ?_
      refine wp_exit ?_
      refine x_thenE ?_
      refine x_thenE ?_
      refine x_hit ?_
      refine x_then ?_
      refine wp_seq ?_
      refine wp_region_lit ?_
      refine ql (.slice A xs.length c) (by kernel_rfl) (by kernel_rfl) ?_
      refine ql (.int .i64 (xs.length : Int)) (by kernel_rfl) (by kernel_rfl) ?_
      refine ql (.slice B ys.length d) (by kernel_rfl) (by kernel_rfl) ?_
      refine ql (.int .i64 (ys.length : Int)) (by kernel_rfl) (by kernel_rfl) ?_
      by_cases hc12 : (xs.length : Int) < (ys.length : Int)
      · skip
        refine ql (.bool true) (by kernel_rfl) (R_bool (p := (xs.length : Int) < (ys.length : Int)) (by kernel_rfl) (hc12)) ?_
        refine ql (.bool true) (by kernel_rfl) (by kernel_rfl) ?_
        refine wpList_nil ?_
        refine x_then ?_
        refine wp_ret ?_
        refine ret_ (.bool true) (by kernel_rfl) ?_
        have hq : lx (xs.reverse.drop (k - 1).toNat) (ys.reverse.drop (k - 1).toNat) = -1 ∨ lx (xs.reverse.drop (k - 1).toNat) (ys.reverse.drop (k - 1).toNat) = -1 := by
          by_cases h8 : (xs.length : Int) ≤ k - 1
          · have h9 := lx_end (xs := xs.reverse) (ys := ys.reverse) (i := k - 1) (by omega) (by omega)
            by_cases h7 : k - 1 < (ys.reverse.length : Int)
            · rw [if_pos h7] at h9; omega
            · rw [if_neg h7] at h9; omega
          · have h9 := lx_long (xs := xs.reverse) (ys := ys.reverse) (i := k - 1) (by omega) (by omega) (by omega)
            omega
        exact ⟨by rw [decide_eq_true (by rw [hL]; omega)], HS⟩
      · skip
        refine ql (.bool false) (by kernel_rfl) (R_nbool (p := (xs.length : Int) < (ys.length : Int)) (by kernel_rfl) (hc12)) ?_
        refine ql (.bool false) (by kernel_rfl) (by kernel_rfl) ?_
        refine wpList_nil ?_
        refine x_then ?_
        refine wp_ret ?_
        refine ret_ (.bool false) (by kernel_rfl) ?_
        have hq : lx (xs.reverse.drop (k - 1).toNat) (ys.reverse.drop (k - 1).toNat) = 0 ∨ lx (xs.reverse.drop (k - 1).toNat) (ys.reverse.drop (k - 1).toNat) = 1 := by
          by_cases h8 : (xs.length : Int) ≤ k - 1
          · have h9 := lx_end (xs := xs.reverse) (ys := ys.reverse) (i := k - 1) (by omega) (by omega)
            by_cases h7 : k - 1 < (ys.reverse.length : Int)
            · rw [if_pos h7] at h9; omega
            · rw [if_neg h7] at h9; omega
          · have h9 := lx_long (xs := xs.reverse) (ys := ys.reverse) (i := k - 1) (by omega) (by omega) (by omega)
            omega
        exact ⟨by rw [decide_eq_false (by rw [hL]; omega)], HS⟩
  · skip
    refine ql (.bool false) (by kernel_rfl) (R_nbool (p := k ≤ (xs.length : Int)) (by kernel_rfl) (hc4)) ?_
    refine ql (.bool false) (by kernel_rfl) (by kernel_rfl) ?_
    refine qln (by kernel_rfl) ?_
    refine qln (by kernel_rfl) ?_
    refine qln (by kernel_rfl) ?_
    refine qln (by kernel_rfl) ?_
    refine ql (.bool false) (by kernel_rfl) (by kernel_rfl) ?_
    refine wpList_nil ?_
    refine x_then ?_
    refine wp_cond_false (by kernel_rfl) ?_
    refine wp_exit ?_
    refine x_thenE ?_
    refine x_thenE ?_
    refine x_hit ?_
    refine x_then ?_
    refine wp_seq ?_
    refine wp_region_lit ?_
    refine ql (.slice A xs.length c) (by kernel_rfl) (by kernel_rfl) ?_
    refine ql (.int .i64 (xs.length : Int)) (by kernel_rfl) (by kernel_rfl) ?_
    refine ql (.slice B ys.length d) (by kernel_rfl) (by kernel_rfl) ?_
    refine ql (.int .i64 (ys.length : Int)) (by kernel_rfl) (by kernel_rfl) ?_
    by_cases hc13 : (xs.length : Int) < (ys.length : Int)
    · skip
      refine ql (.bool true) (by kernel_rfl) (R_bool (p := (xs.length : Int) < (ys.length : Int)) (by kernel_rfl) (hc13)) ?_
      refine ql (.bool true) (by kernel_rfl) (by kernel_rfl) ?_
      refine wpList_nil ?_
      refine x_then ?_
      refine wp_ret ?_
      refine ret_ (.bool true) (by kernel_rfl) ?_
      have hq : lx (xs.reverse.drop (k - 1).toNat) (ys.reverse.drop (k - 1).toNat) = -1 ∨ lx (xs.reverse.drop (k - 1).toNat) (ys.reverse.drop (k - 1).toNat) = -1 := by
        by_cases h8 : (xs.length : Int) ≤ k - 1
        · have h9 := lx_end (xs := xs.reverse) (ys := ys.reverse) (i := k - 1) (by omega) (by omega)
          by_cases h7 : k - 1 < (ys.reverse.length : Int)
          · rw [if_pos h7] at h9; omega
          · rw [if_neg h7] at h9; omega
        · have h9 := lx_long (xs := xs.reverse) (ys := ys.reverse) (i := k - 1) (by omega) (by omega) (by omega)
          omega
      exact ⟨by rw [decide_eq_true (by rw [hL]; omega)], HS⟩
    · skip
      refine ql (.bool false) (by kernel_rfl) (R_nbool (p := (xs.length : Int) < (ys.length : Int)) (by kernel_rfl) (hc13)) ?_
      refine ql (.bool false) (by kernel_rfl) (by kernel_rfl) ?_
      refine wpList_nil ?_
      refine x_then ?_
      refine wp_ret ?_
      refine ret_ (.bool false) (by kernel_rfl) ?_
      have hq : lx (xs.reverse.drop (k - 1).toNat) (ys.reverse.drop (k - 1).toNat) = 0 ∨ lx (xs.reverse.drop (k - 1).toNat) (ys.reverse.drop (k - 1).toNat) = 1 := by
        by_cases h8 : (xs.length : Int) ≤ k - 1
        · have h9 := lx_end (xs := xs.reverse) (ys := ys.reverse) (i := k - 1) (by omega) (by omega)
          by_cases h7 : k - 1 < (ys.reverse.length : Int)
          · rw [if_pos h7] at h9; omega
          · rw [if_neg h7] at h9; omega
        · have h9 := lx_long (xs := xs.reverse) (ys := ys.reverse) (i := k - 1) (by omega) (by omega) (by omega)
          omega
      exact ⟨by rw [decide_eq_false (by rw [hL]; omega)], HS⟩

def wkN (N : Nat) (arcs : List (Int × Int)) (v : Int) (xs : List Int) : Option Int := if 0 ≤ v ∧ v < N then wk arcs v xs else none
def tup (o : Option Int) : Value := .tuple #[.int .i64 (o.getD 0), .bool o.isSome]

set_option maxRecDepth 100000 in
set_option maxHeartbeats 1000000 in
theorem rwalk_yes (N : Nat) (A : Option Addr) (c : Nat) (arcs : List (Int × Int)) (W : World) (hr : Rd W A (cf arcC arcs)) (hl : arcs.length ≤ 1048576) (hF : Fine N arcs) (L : Option Addr) (cl : Nat) (xs : List Int) (v : Int) (hrl : Rd W L (ci .i64 xs)) (hxl : xs.length ≤ 1099511627776) (hv : 0 ≤ v ∧ v < N) : Calls Try.prog 48 #[.int .i64 (N : Int), .slice A arcs.length c, .int .i64 v, .slice L xs.length cl] W fun e W' => e = .returned (tup (wkN N arcs v xs)) ∧ St W (owns []) W' [] := by
  have HS : St W (owns []) W [] := St.start W _
  refine calls_enter ((.int .i64 (N : Int)) :: (.slice A arcs.length c) :: (.int .i64 v) :: (.slice L xs.length cl) :: undef :: undef :: undef :: undef :: undef :: undef :: undef :: undef :: undef :: undef :: undef :: undef :: undef :: undef :: undef :: undef :: undef :: undef :: undef :: undef :: undef :: undef :: undef :: undef :: undef :: undef :: undef :: undef :: undef :: undef :: undef :: undef :: undef :: undef :: undef :: undef :: undef :: undef :: undef :: undef :: undef :: undef :: undef :: undef :: undef :: undef :: undef :: undef :: undef :: undef :: undef :: undef :: undef :: undef :: undef :: []) Try.func48 rfl (by kernel_rfl) ?_
  refine wp_seq ?_
  refine wp_region_lit ?_
  refine ql (.int .i64 0) (by kernel_rfl) (by kernel_rfl) ?_
  refine ql (.bool false) (by kernel_rfl) (by kernel_rfl) ?_
  refine wpList_nil ?_
  refine x_then ?_
  refine wp_seq ?_
  refine wp_seq ?_
  refine wp_region_lit ?_
  refine ql (.int .i64 v) (by kernel_rfl) (by kernel_rfl) ?_
  refine ql (.bool false) (by kernel_rfl) (R_nbool (p := v < (0 : Int)) (by kernel_rfl) (by omega)) ?_
  refine ql (.bool false) (by kernel_rfl) (by kernel_rfl) ?_
  refine ql (.int .i64 v) (by kernel_rfl) (by kernel_rfl) ?_
  refine ql (.int .i64 (N : Int)) (by kernel_rfl) (by kernel_rfl) ?_
  refine ql (.bool false) (by kernel_rfl) (R_nbool (p := v ≥ (N : Int)) (by kernel_rfl) (by omega)) ?_
  refine ql (.bool false) (by kernel_rfl) (by kernel_rfl) ?_
  refine wpList_nil ?_
  refine x_then ?_
  refine wp_cond_false (by kernel_rfl) ?_
  refine wp_skip ?_
  refine x_then ?_
  refine wp_seq ?_
  refine wp_seq ?_
  refine wp_region_lit ?_
  refine ql (.int .i64 0) (by kernel_rfl) (by kernel_rfl) ?_
  refine wpList_nil ?_
  refine x_then ?_
  refine wp_block ?_
  refine wp_loop_ghost (fun kq a' w' => ∃ (J1 : Nat → Value) (k : Int) (u : Int) , a' = Fr ((.int .i64 (N : Int)) :: (.slice A arcs.length c) :: (.int .i64 u) :: (.slice L xs.length cl) :: undef :: undef :: undef :: undef :: ((J1 8)) :: ((J1 9)) :: (.int .i64 k) :: (.int .i64 v) :: (.bool false) :: (.bool false) :: (.int .i64 v) :: (.int .i64 (N : Int)) :: (.bool false) :: (.bool false) :: ((J1 18)) :: ((J1 19)) :: ((J1 20)) :: ((J1 21)) :: ((J1 22)) :: ((J1 23)) :: ((J1 24)) :: ((J1 25)) :: ((J1 26)) :: ((J1 27)) :: ((J1 28)) :: ((J1 29)) :: ((J1 30)) :: ((J1 31)) :: ((J1 32)) :: ((J1 33)) :: ((J1 34)) :: ((J1 35)) :: ((J1 36)) :: ((J1 37)) :: ((J1 38)) :: ((J1 39)) :: ((J1 40)) :: ((J1 41)) :: ((J1 42)) :: ((J1 43)) :: ((J1 44)) :: ((J1 45)) :: ((J1 46)) :: ((J1 47)) :: ((J1 48)) :: ((J1 49)) :: ((J1 50)) :: ((J1 51)) :: ((J1 52)) :: ((J1 53)) :: ((J1 54)) :: ((J1 55)) :: ((J1 56)) :: ((J1 57)) :: undef :: []) ∧ kq = (xs.length - (k).toNat) ∧ (0 ≤ k) ∧ (k ≤ xs.length) ∧ (wk arcs v xs = wk arcs u (xs.drop (k).toNat)) ∧ St W (owns []) w' []) (xs.length - ((0 : Int)).toNat) ⟨(fun k_ : Nat => List.getD ((.int .i64 (N : Int)) :: (.slice A arcs.length c) :: (.int .i64 v) :: (.slice L xs.length cl) :: undef :: undef :: undef :: undef :: (.int .i64 0) :: (.bool false) :: (.int .i64 0) :: (.int .i64 v) :: (.bool false) :: (.bool false) :: (.int .i64 v) :: (.int .i64 (N : Int)) :: (.bool false) :: (.bool false) :: undef :: undef :: undef :: undef :: undef :: undef :: undef :: undef :: undef :: undef :: undef :: undef :: undef :: undef :: undef :: undef :: undef :: undef :: undef :: undef :: undef :: undef :: undef :: undef :: undef :: undef :: undef :: undef :: undef :: undef :: undef :: undef :: undef :: undef :: undef :: undef :: undef :: undef :: undef :: undef :: undef :: []) k_ undef), (0 : Int), v, congrArg Fr (by kernel_rfl), rfl, by omega, by omega, by rw [Int.toNat_zero, List.drop_zero], HS⟩ ?_
  clear HS
  intro kq2 a' W3 hrel
  obtain ⟨J1, k, u, rfl, hk, k0, k1, hW, HS⟩ := hrel
  refine wp_seq ?_
  refine wp_seq ?_
  refine wp_region_lit ?_
  refine ql (.int .i64 k) (by kernel_rfl) (by kernel_rfl) ?_
  refine ql (.slice L xs.length cl) (by kernel_rfl) (by kernel_rfl) ?_
  refine ql (.int .i64 (xs.length : Int)) (by kernel_rfl) (by kernel_rfl) ?_
  by_cases hc4 : k < (xs.length : Int)
  · skip
    refine ql (.bool true) (by kernel_rfl) (R_bool (p := k < (xs.length : Int)) (by kernel_rfl) (hc4)) ?_
    refine wpList_nil ?_
    refine x_then ?_
    refine wp_cond_true (by kernel_rfl) ?_
    refine wp_skip ?_
    refine x_then ?_
    refine wp_seq ?_
    refine wp_block ?_
    refine wp_seq ?_
    refine wp_seq ?_
    refine wp_region_lit ?_
    refine ql (.slice L xs.length cl) (by kernel_rfl) (by kernel_rfl) ?_
    refine ql (.int .i64 k) (by kernel_rfl) (by kernel_rfl) ?_
    obtain ⟨ad5, rfl⟩ := Rd.isSome_ hrl (by rw [ci_len]; omega)
    refine ql (.pointer (some (ad5.add k.toNat))) (by kernel_rfl) (R_indexA1 (k := .i64) (p := ad5) (n := xs.length) (c := cl) (i := k) (by kernel_rfl) (by kernel_rfl) Try.underlying28 (by kernel_rfl) (by omega) (by omega)) ?_
    refine ql (.int .i64 (rdI xs k)) (by kernel_rfl) (R_load (p := ad5.add k.toNat) (by kernel_rfl) (by kernel_rfl) (by kernel_rfl) (HS.old0 (hrl.at_ (ci_rd (i := k) (by omega) (by omega))))) ?_
    by_cases hc6 : (rdI xs k) < (0 : Int)
    · skip
      refine ql (.bool true) (by kernel_rfl) (R_bool (p := (rdI xs k) < (0 : Int)) (by kernel_rfl) (hc6)) ?_
      refine ql (.bool true) (by kernel_rfl) (by kernel_rfl) ?_
      refine qln (by kernel_rfl) ?_
      refine qln (by kernel_rfl) ?_
      refine qln (by kernel_rfl) ?_
      refine qln (by kernel_rfl) ?_
      refine qln (by kernel_rfl) ?_
      refine qln (by kernel_rfl) ?_
      refine qln (by kernel_rfl) ?_
      refine ql (.bool true) (by kernel_rfl) (by kernel_rfl) ?_
      refine ql (.bool true) (by kernel_rfl) (by kernel_rfl) ?_
      refine qln (by kernel_rfl) ?_
      refine qln (by kernel_rfl) ?_
      refine qln (by kernel_rfl) ?_
      refine qln (by kernel_rfl) ?_
      refine qln (by kernel_rfl) ?_
      refine qln (by kernel_rfl) ?_
      refine qln (by kernel_rfl) ?_
      refine qln (by kernel_rfl) ?_
      refine qln (by kernel_rfl) ?_
      refine qln (by kernel_rfl) ?_
      refine ql (.bool true) (by kernel_rfl) (by kernel_rfl) ?_
      refine wpList_nil ?_
      refine x_then ?_
      refine wp_cond_true (by kernel_rfl) ?_
      refine wp_seq ?_
      refine wp_region_lit ?_
      refine ql (.int .i64 0) (by kernel_rfl) (by kernel_rfl) ?_
      refine ql (.bool false) (by kernel_rfl) (by kernel_rfl) ?_
      refine wpList_nil ?_
      refine x_then ?_
      refine wp_ret ?_
      refine x_thenR ?_
      refine x_inbR ?_
      refine x_thenR ?_
      refine x_thenR ?_
      refine x_inbR ?_
      refine x_thenR ?_
      refine ret_ (.tuple #[.int .i64 0, .bool false]) (by kernel_rfl) ?_
      have hq := wk_none (arcs := arcs) (v := u) (xs := xs) (k := k) k0 (by omega) (by rintro ⟨x1, x2, x3⟩; omega)
      exact ⟨by unfold wkN; rw [if_pos hv, hW, hq]; rfl, HS⟩
    · skip
      refine ql (.bool false) (by kernel_rfl) (R_nbool (p := (rdI xs k) < (0 : Int)) (by kernel_rfl) (hc6)) ?_
      refine ql (.bool false) (by kernel_rfl) (by kernel_rfl) ?_
      refine ql (.slice (some ad5) xs.length cl) (by kernel_rfl) (by kernel_rfl) ?_
      refine ql (.int .i64 k) (by kernel_rfl) (by kernel_rfl) ?_
      refine ql (.pointer (some (ad5.add k.toNat))) (by kernel_rfl) (R_indexA1 (k := .i64) (p := ad5) (n := xs.length) (c := cl) (i := k) (by kernel_rfl) (by kernel_rfl) Try.underlying28 (by kernel_rfl) (by omega) (by omega)) ?_
      refine ql (.int .i64 (rdI xs k)) (by kernel_rfl) (R_load (p := ad5.add k.toNat) (by kernel_rfl) (by kernel_rfl) (by kernel_rfl) (HS.old0 (hrl.at_ (ci_rd (i := k) (by omega) (by omega))))) ?_
      refine ql (.slice A arcs.length c) (by kernel_rfl) (by kernel_rfl) ?_
      refine ql (.int .i64 (arcs.length : Int)) (by kernel_rfl) (by kernel_rfl) ?_
      by_cases hc7 : (rdI xs k) ≥ (arcs.length : Int)
      · skip
        refine ql (.bool true) (by kernel_rfl) (R_bool (p := (rdI xs k) ≥ (arcs.length : Int)) (by kernel_rfl) (hc7)) ?_
        refine ql (.bool true) (by kernel_rfl) (by kernel_rfl) ?_
        refine ql (.bool true) (by kernel_rfl) (by kernel_rfl) ?_
        refine qln (by kernel_rfl) ?_
        refine qln (by kernel_rfl) ?_
        refine qln (by kernel_rfl) ?_
        refine qln (by kernel_rfl) ?_
        refine qln (by kernel_rfl) ?_
        refine qln (by kernel_rfl) ?_
        refine qln (by kernel_rfl) ?_
        refine qln (by kernel_rfl) ?_
        refine qln (by kernel_rfl) ?_
        refine qln (by kernel_rfl) ?_
        refine ql (.bool true) (by kernel_rfl) (by kernel_rfl) ?_
        refine wpList_nil ?_
        refine x_then ?_
        refine wp_cond_true (by kernel_rfl) ?_
        refine wp_seq ?_
        refine wp_region_lit ?_
        refine ql (.int .i64 0) (by kernel_rfl) (by kernel_rfl) ?_
        refine ql (.bool false) (by kernel_rfl) (by kernel_rfl) ?_
        refine wpList_nil ?_
        refine x_then ?_
        refine wp_ret ?_
        refine x_thenR ?_
        refine x_inbR ?_
        refine x_thenR ?_
        refine x_thenR ?_
        refine x_inbR ?_
        refine x_thenR ?_
        refine ret_ (.tuple #[.int .i64 0, .bool false]) (by kernel_rfl) ?_
        have hq := wk_none (arcs := arcs) (v := u) (xs := xs) (k := k) k0 (by omega) (by rintro ⟨x1, x2, x3⟩; omega)
        exact ⟨by unfold wkN; rw [if_pos hv, hW, hq]; rfl, HS⟩
      · skip
        refine ql (.bool false) (by kernel_rfl) (R_nbool (p := (rdI xs k) ≥ (arcs.length : Int)) (by kernel_rfl) (hc7)) ?_
        refine ql (.bool false) (by kernel_rfl) (by kernel_rfl) ?_
        refine ql (.bool false) (by kernel_rfl) (by kernel_rfl) ?_
        refine ql (.slice A arcs.length c) (by kernel_rfl) (by kernel_rfl) ?_
        refine ql (.slice (some ad5) xs.length cl) (by kernel_rfl) (by kernel_rfl) ?_
        refine ql (.int .i64 k) (by kernel_rfl) (by kernel_rfl) ?_
        refine ql (.pointer (some (ad5.add k.toNat))) (by kernel_rfl) (R_indexA1 (k := .i64) (p := ad5) (n := xs.length) (c := cl) (i := k) (by kernel_rfl) (by kernel_rfl) Try.underlying28 (by kernel_rfl) (by omega) (by omega)) ?_
        refine ql (.int .i64 (rdI xs k)) (by kernel_rfl) (R_load (p := ad5.add k.toNat) (by kernel_rfl) (by kernel_rfl) (by kernel_rfl) (HS.old0 (hrl.at_ (ci_rd (i := k) (by omega) (by omega))))) ?_
        obtain ⟨ad8, rfl⟩ := Rd.isSome_ hr (by rw [cf_len (z := 2) (fun _ => rfl)]; omega)
        refine ql (.pointer (some (ad8.add ((rdI xs k).toNat * 2)))) (by kernel_rfl) (R_indexA (k := .i64) (p := ad8) (n := arcs.length) (c := c) (i := rdI xs k) (by kernel_rfl) (by kernel_rfl) Try.underlying22 (by kernel_rfl) (by omega) (by omega)) ?_
        refine ql (.pointer (some (ad8.add ((rdI xs k).toNat * 2)))) (by kernel_rfl) (by kernel_rfl) ?_
        refine ql (.int .i64 ((gx arcs (rdI xs k)).1)) (by kernel_rfl) (R_load (p := ad8.add ((rdI xs k).toNat * 2)) (by kernel_rfl) (by kernel_rfl) (by kernel_rfl) (HS.old0 (Rd.elem0 (f := arcC) (fun _ => rfl) hr (gx_eq (by omega) (by omega)) rfl))) ?_
        refine ql (.int .i64 u) (by kernel_rfl) (by kernel_rfl) ?_
        by_cases hc9 : ((gx arcs (rdI xs k)).1) = u
        · skip
          refine ql (.bool false) (by kernel_rfl) (R_beq (b := ((gx arcs (rdI xs k)).1 != u)) (by kernel_rfl) (bne_f (hc9))) ?_
          refine ql (.bool false) (by kernel_rfl) (by kernel_rfl) ?_
          refine wpList_nil ?_
          refine x_then ?_
          refine wp_cond_false (by kernel_rfl) ?_
          refine wp_skip ?_
          refine x_then ?_
          refine wp_region_lit ?_
          refine ql (.slice (some ad8) arcs.length c) (by kernel_rfl) (by kernel_rfl) ?_
          refine ql (.slice (some ad5) xs.length cl) (by kernel_rfl) (by kernel_rfl) ?_
          refine ql (.int .i64 k) (by kernel_rfl) (by kernel_rfl) ?_
          refine ql (.pointer (some (ad5.add k.toNat))) (by kernel_rfl) (R_indexA1 (k := .i64) (p := ad5) (n := xs.length) (c := cl) (i := k) (by kernel_rfl) (by kernel_rfl) Try.underlying28 (by kernel_rfl) (by omega) (by omega)) ?_
          refine ql (.int .i64 (rdI xs k)) (by kernel_rfl) (R_load (p := ad5.add k.toNat) (by kernel_rfl) (by kernel_rfl) (by kernel_rfl) (HS.old0 (hrl.at_ (ci_rd (i := k) (by omega) (by omega))))) ?_
          refine ql (.pointer (some (ad8.add ((rdI xs k).toNat * 2)))) (by kernel_rfl) (R_indexA (k := .i64) (p := ad8) (n := arcs.length) (c := c) (i := rdI xs k) (by kernel_rfl) (by kernel_rfl) Try.underlying22 (by kernel_rfl) (by omega) (by omega)) ?_
          refine ql (.pointer (some ((ad8.add ((rdI xs k).toNat * 2)).add 1))) (by kernel_rfl) (by kernel_rfl) ?_
          refine ql (.int .i64 ((gx arcs (rdI xs k)).2)) (by kernel_rfl) (R_load (p := (ad8.add ((rdI xs k).toNat * 2)).add 1) (by kernel_rfl) (by kernel_rfl) (by kernel_rfl) (HS.old0 (Rd.elem1 (k := 1) (f := arcC) (fun _ => rfl) hr (gx_eq (by omega) (by omega)) rfl))) ?_
          refine ql (.int .i64 ((gx arcs (rdI xs k)).2)) (by kernel_rfl) (by kernel_rfl) ?_
          refine wpList_nil ?_
          refine x_inb ?_
          refine x_then ?_
          refine wp_region_lit ?_
          refine ql (.int .i64 k) (by kernel_rfl) (by kernel_rfl) ?_
          refine ql (.int .i64 (k + 1)) (by kernel_rfl) (R_int (by kernel_rfl) (w64 (by omega))) ?_
          refine ql (.int .i64 (k + 1)) (by kernel_rfl) (by kernel_rfl) ?_
          refine wpList_nil ?_
          have hst := wk_step (arcs := arcs) (xs := xs) (v := u) k0 (by omega) ⟨by omega, by omega, by omega⟩
          refine x_then ?_
          exact ⟨xs.length - (k + 1).toNat, by omega, (fun k_ : Nat => List.getD ((.int .i64 (N : Int)) :: (.slice (some ad8) arcs.length c) :: (.int .i64 ((gx arcs (rdI xs k)).2)) :: (.slice (some ad5) xs.length cl) :: undef :: undef :: undef :: undef :: ((J1 8)) :: ((J1 9)) :: (.int .i64 (k + 1)) :: (.int .i64 v) :: (.bool false) :: (.bool false) :: (.int .i64 v) :: (.int .i64 (N : Int)) :: (.bool false) :: (.bool false) :: (.int .i64 k) :: (.slice (some ad5) xs.length cl) :: (.int .i64 (xs.length : Int)) :: (.bool true) :: (.int .i64 k) :: (.int .i64 (k + 1)) :: (.slice (some ad5) xs.length cl) :: (.int .i64 k) :: (.pointer (some (ad5.add k.toNat))) :: (.int .i64 (rdI xs k)) :: (.bool false) :: (.bool false) :: (.slice (some ad5) xs.length cl) :: (.int .i64 k) :: (.pointer (some (ad5.add k.toNat))) :: (.int .i64 (rdI xs k)) :: (.slice (some ad8) arcs.length c) :: (.int .i64 (arcs.length : Int)) :: (.bool false) :: (.bool false) :: (.bool false) :: (.slice (some ad8) arcs.length c) :: (.slice (some ad5) xs.length cl) :: (.int .i64 k) :: (.pointer (some (ad5.add k.toNat))) :: (.int .i64 (rdI xs k)) :: (.pointer (some (ad8.add ((rdI xs k).toNat * 2)))) :: (.pointer (some (ad8.add ((rdI xs k).toNat * 2)))) :: (.int .i64 ((gx arcs (rdI xs k)).1)) :: (.int .i64 u) :: (.bool false) :: (.bool false) :: (.slice (some ad8) arcs.length c) :: (.slice (some ad5) xs.length cl) :: (.int .i64 k) :: (.pointer (some (ad5.add k.toNat))) :: (.int .i64 (rdI xs k)) :: (.pointer (some (ad8.add ((rdI xs k).toNat * 2)))) :: (.pointer (some ((ad8.add ((rdI xs k).toNat * 2)).add 1))) :: (.int .i64 ((gx arcs (rdI xs k)).2)) :: undef :: []) k_ undef), k + 1, (gx arcs (rdI xs k)).2, congrArg Fr (by kernel_rfl), rfl, by omega, by omega, hW.trans hst, HS⟩
        · skip
          refine ql (.bool true) (by kernel_rfl) (R_beq (b := ((gx arcs (rdI xs k)).1 != u)) (by kernel_rfl) (bne_t (hc9))) ?_
          refine ql (.bool true) (by kernel_rfl) (by kernel_rfl) ?_
          refine wpList_nil ?_
          refine x_then ?_
          refine wp_cond_true (by kernel_rfl) ?_
          refine wp_seq ?_
          refine wp_region_lit ?_
          refine ql (.int .i64 0) (by kernel_rfl) (by kernel_rfl) ?_
          refine ql (.bool false) (by kernel_rfl) (by kernel_rfl) ?_
          refine wpList_nil ?_
          refine x_then ?_
          refine wp_ret ?_
          refine x_thenR ?_
          refine x_inbR ?_
          refine x_thenR ?_
          refine x_thenR ?_
          refine x_inbR ?_
          refine x_thenR ?_
          refine ret_ (.tuple #[.int .i64 0, .bool false]) (by kernel_rfl) ?_
          have hq := wk_none (arcs := arcs) (v := u) (xs := xs) (k := k) k0 (by omega) (by rintro ⟨x1, x2, x3⟩; omega)
          exact ⟨by unfold wkN; rw [if_pos hv, hW, hq]; rfl, HS⟩
  · skip
    refine ql (.bool false) (by kernel_rfl) (R_nbool (p := k < (xs.length : Int)) (by kernel_rfl) (hc4)) ?_
    refine wpList_nil ?_
    refine x_then ?_
    refine wp_cond_false (by kernel_rfl) ?_
    refine wp_exit ?_
    refine x_thenE ?_
    refine x_thenE ?_
    refine x_hit ?_
    refine x_then ?_
    refine wp_seq ?_
    refine wp_region_lit ?_
    refine ql (.int .i64 u) (by kernel_rfl) (by kernel_rfl) ?_
    refine ql (.int .i64 u) (by kernel_rfl) (by kernel_rfl) ?_
    refine ql (.bool true) (by kernel_rfl) (by kernel_rfl) ?_
    refine wpList_nil ?_
    refine x_then ?_
    refine wp_ret ?_
    refine ret_ (.tuple #[.int .i64 u, .bool true]) (by kernel_rfl) ?_
    have hq := wk_end (arcs := arcs) (v := u) (xs := xs) (k := k) (by omega)
    exact ⟨by unfold wkN; rw [if_pos hv, hW, hq]; rfl, HS⟩

set_option maxRecDepth 100000 in
set_option maxHeartbeats 1000000 in
theorem rwalk_no (N : Nat) (A : Option Addr) (c : Nat) (arcs : List (Int × Int)) (W : World) (hr : Rd W A (cf arcC arcs)) (hl : arcs.length ≤ 1048576) (hF : Fine N arcs) (L : Option Addr) (cl : Nat) (xs : List Int) (v : Int) (hrl : Rd W L (ci .i64 xs)) (hxl : xs.length ≤ 1099511627776) (hv : ¬ (0 ≤ v ∧ v < N)) : Calls Try.prog 48 #[.int .i64 (N : Int), .slice A arcs.length c, .int .i64 v, .slice L xs.length cl] W fun e W' => e = .returned (tup (wkN N arcs v xs)) ∧ St W (owns []) W' [] := by
  have HS : St W (owns []) W [] := St.start W _
  refine calls_enter ((.int .i64 (N : Int)) :: (.slice A arcs.length c) :: (.int .i64 v) :: (.slice L xs.length cl) :: undef :: undef :: undef :: undef :: undef :: undef :: undef :: undef :: undef :: undef :: undef :: undef :: undef :: undef :: undef :: undef :: undef :: undef :: undef :: undef :: undef :: undef :: undef :: undef :: undef :: undef :: undef :: undef :: undef :: undef :: undef :: undef :: undef :: undef :: undef :: undef :: undef :: undef :: undef :: undef :: undef :: undef :: undef :: undef :: undef :: undef :: undef :: undef :: undef :: undef :: undef :: undef :: undef :: undef :: undef :: []) Try.func48 rfl (by kernel_rfl) ?_
  refine wp_seq ?_
  refine wp_region_lit ?_
  refine ql (.int .i64 0) (by kernel_rfl) (by kernel_rfl) ?_
  refine ql (.bool false) (by kernel_rfl) (by kernel_rfl) ?_
  refine wpList_nil ?_
  refine x_then ?_
  refine wp_seq ?_
  refine wp_seq ?_
  refine wp_region_lit ?_
  refine ql (.int .i64 v) (by kernel_rfl) (by kernel_rfl) ?_
  by_cases hc1 : v < (0 : Int)
  · skip
    refine ql (.bool true) (by kernel_rfl) (R_bool (p := v < (0 : Int)) (by kernel_rfl) (hc1)) ?_
    refine ql (.bool true) (by kernel_rfl) (by kernel_rfl) ?_
    refine qln (by kernel_rfl) ?_
    refine qln (by kernel_rfl) ?_
    refine qln (by kernel_rfl) ?_
    refine ql (.bool true) (by kernel_rfl) (by kernel_rfl) ?_
    refine wpList_nil ?_
    refine x_then ?_
    refine wp_cond_true (by kernel_rfl) ?_
    refine wp_seq ?_
    refine wp_region_lit ?_
    refine ql (.int .i64 0) (by kernel_rfl) (by kernel_rfl) ?_
    refine ql (.bool false) (by kernel_rfl) (by kernel_rfl) ?_
    refine wpList_nil ?_
    refine x_then ?_
    refine wp_ret ?_
    refine x_thenR ?_
    refine ret_ (.tuple #[.int .i64 0, .bool false]) (by kernel_rfl) ?_
    exact ⟨by unfold wkN; rw [if_neg hv]; rfl, HS⟩
  · skip
    refine ql (.bool false) (by kernel_rfl) (R_nbool (p := v < (0 : Int)) (by kernel_rfl) (hc1)) ?_
    refine ql (.bool false) (by kernel_rfl) (by kernel_rfl) ?_
    refine ql (.int .i64 v) (by kernel_rfl) (by kernel_rfl) ?_
    refine ql (.int .i64 (N : Int)) (by kernel_rfl) (by kernel_rfl) ?_
    refine ql (.bool true) (by kernel_rfl) (R_bool (p := v ≥ (N : Int)) (by kernel_rfl) (by omega)) ?_
    refine ql (.bool true) (by kernel_rfl) (by kernel_rfl) ?_
    refine wpList_nil ?_
    refine x_then ?_
    refine wp_cond_true (by kernel_rfl) ?_
    refine wp_seq ?_
    refine wp_region_lit ?_
    refine ql (.int .i64 0) (by kernel_rfl) (by kernel_rfl) ?_
    refine ql (.bool false) (by kernel_rfl) (by kernel_rfl) ?_
    refine wpList_nil ?_
    refine x_then ?_
    refine wp_ret ?_
    refine x_thenR ?_
    refine ret_ (.tuple #[.int .i64 0, .bool false]) (by kernel_rfl) ?_
    exact ⟨by unfold wkN; rw [if_neg hv]; rfl, HS⟩

set_option maxRecDepth 100000 in
set_option maxHeartbeats 1000000 in
theorem pwalk_yes (g N : Nat) (arcs : List (Int × Int)) (W : World) (hG : GAt W g N arcs) (L : Option Addr) (cl : Nat) (xs : List Int) (v : Int) (hrl : Rd W L (ci .i64 xs)) (hxl : xs.length ≤ 1099511627776) (hv : 0 ≤ v ∧ v < N) : Calls Try.prog 47 #[.pointer (some ⟨g, 0, none⟩), .int .i64 v, .slice L xs.length cl] W fun e W' => e = .returned (tup (wkN N arcs v xs)) ∧ St W (owns []) W' [] := by
  have HS : St W (owns []) W [] := St.start W _
  have hF := hG.fine
  refine calls_enter [.pointer (some ⟨g, 0, none⟩), .int .i64 v, .slice L xs.length cl, undef, undef, undef, undef, undef, undef, undef, undef, undef, undef, undef, undef, undef, undef, undef, undef, undef, undef, undef, undef, undef, undef, undef, undef, undef, undef, undef, undef, undef, undef, undef, undef, undef, undef, undef, undef, undef, undef, undef, undef, undef] Try.func47 rfl (by kernel_rfl) ?_
  refine wp_seq ?_
  refine wp_region_lit ?_
  refine ql (.int .i64 0) (by kernel_rfl) (by kernel_rfl) ?_
  refine ql (.bool false) (by kernel_rfl) (by kernel_rfl) ?_
  refine wpList_nil ?_
  refine x_then ?_
  refine wp_seq ?_
  refine wp_seq ?_
  refine wp_region_lit ?_
  refine ql (.int .i64 v) (by kernel_rfl) (by kernel_rfl) ?_
  refine ql (.bool false) (by kernel_rfl) (R_nbool (p := v < (0 : Int)) (by kernel_rfl) (by omega)) ?_
  refine ql (.bool false) (by kernel_rfl) (by kernel_rfl) ?_
  refine ql (.int .i64 v) (by kernel_rfl) (by kernel_rfl) ?_
  refine ql (.pointer (some ⟨g, 0, none⟩)) (by kernel_rfl) (by kernel_rfl) ?_
  refine qc (f := 17) (args := #[.pointer (some ⟨g, 0, none⟩)]) (by kernel_rfl) (R_call #[.pointer (some ⟨g, 0, none⟩)] Try.func17 (by kernel_rfl) (by kernel_rfl) (by kernel_rfl)) ?_
  refine (nodessome g N arcs _ (hG.below (HS.kept.below owns_nil))).mono ?_
  rintro e W1 ⟨rfl, H_⟩
  refine ⟨_, rfl, ?_⟩
  replace HS : St W (owns []) W1 [] := HS.join (F := []) (G := []) H_
  clear H_
  refine ql (.bool false) (by kernel_rfl) (R_nbool (p := v ≥ (N : Int)) (by kernel_rfl) (by omega)) ?_
  refine ql (.bool false) (by kernel_rfl) (by kernel_rfl) ?_
  refine wpList_nil ?_
  refine x_then ?_
  refine wp_cond_false (by kernel_rfl) ?_
  refine wp_skip ?_
  refine x_then ?_
  refine wp_seq ?_
  refine wp_seq ?_
  refine wp_region_lit ?_
  refine ql (.slice L xs.length cl) (by kernel_rfl) (by kernel_rfl) ?_
  refine ql (.int .i64 (xs.length : Int)) (by kernel_rfl) (by kernel_rfl) ?_
  refine ql (.int .i64 0) (by kernel_rfl) (by kernel_rfl) ?_
  refine wpList_nil ?_
  refine x_then ?_
  refine wp_block ?_
  refine wp_loop_ghost (fun kq a' w' => ∃ (J2 : Nat → Value) (k : Int) (u : Int) , a' = Fr [.pointer (some ⟨g, 0, none⟩), .int .i64 u, .slice L xs.length cl, undef, undef, undef, (J2 6), (J2 7), undef, (J2 9), (J2 10), (J2 11), .int .i64 v, .bool false, .bool false, .int .i64 v, .pointer (some ⟨g, 0, none⟩), .int .i64 (N : Int), .bool false, .bool false, .slice L xs.length cl, .int .i64 (xs.length : Int), .int .i64 k, (J2 23), (J2 24), (J2 25), (J2 26), (J2 27), (J2 28), (J2 29), (J2 30), (J2 31), (J2 32), (J2 33), (J2 34), (J2 35), (J2 36), (J2 37), (J2 38), (J2 39), (J2 40), (J2 41), (J2 42), undef] ∧ kq = (xs.length - (k).toNat) ∧ (0 ≤ k) ∧ (k ≤ xs.length) ∧ (wk arcs v xs = wk arcs u (xs.drop (k).toNat)) ∧ St W (owns []) w' []) (xs.length - ((0 : Int)).toNat) ⟨(fun k_ : Nat => List.getD [.pointer (some ⟨g, 0, none⟩), .int .i64 v, .slice L xs.length cl, undef, undef, undef, .int .i64 0, .bool false, undef, undef, undef, undef, .int .i64 v, .bool false, .bool false, .int .i64 v, .pointer (some ⟨g, 0, none⟩), .int .i64 (N : Int), .bool false, .bool false, .slice L xs.length cl, .int .i64 (xs.length : Int), .int .i64 0, undef, undef, undef, undef, undef, undef, undef, undef, undef, undef, undef, undef, undef, undef, undef, undef, undef, undef, undef, undef, undef] k_ undef), (0 : Int), v, congrArg Fr (by kernel_rfl), rfl, by omega, by omega, by rw [Int.toNat_zero, List.drop_zero], HS⟩ ?_
  clear HS
  intro kq3 a' W4 hrel
  obtain ⟨J2, k, u, rfl, hk, k0, k1, hW, HS⟩ := hrel
  refine wp_seq ?_
  refine wp_region_lit ?_
  by_cases hc5 : k < (xs.length : Int)
  · skip
    refine ql (.bool true) (by kernel_rfl) (R_bool (p := k < (xs.length : Int)) (by kernel_rfl) (hc5)) ?_
    refine wpList_nil ?_
    refine x_then ?_
    refine wp_seq ?_
    refine wp_cond_true (by kernel_rfl) ?_
    refine wp_skip ?_
    refine x_then ?_
    refine wp_seq ?_
    refine wp_block ?_
    refine wp_seq ?_
    refine wp_region_lit ?_
    obtain ⟨ad6, rfl⟩ := Rd.isSome_ hrl (by rw [ci_len]; omega)
    refine ql (.pointer (some (ad6.add k.toNat))) (by kernel_rfl) (R_indexA1 (k := .i64) (p := ad6) (n := xs.length) (c := cl) (i := k) (by kernel_rfl) (by kernel_rfl) Try.underlying28 (by kernel_rfl) (by omega) (by omega)) ?_
    refine ql (.int .i64 (rdI xs k)) (by kernel_rfl) (R_load (p := ad6.add k.toNat) (by kernel_rfl) (by kernel_rfl) (by kernel_rfl) (HS.old0 (hrl.at_ (ci_rd (i := k) (by omega) (by omega))))) ?_
    refine ql (.int .i64 (rdI xs k)) (by kernel_rfl) (by kernel_rfl) ?_
    refine wpList_nil ?_
    refine x_then ?_
    refine wp_seq ?_
    refine wp_region_lit ?_
    refine ql (.pointer (some ⟨g, 0, none⟩)) (by kernel_rfl) (by kernel_rfl) ?_
    refine ql (.int .i64 (rdI xs k)) (by kernel_rfl) (by kernel_rfl) ?_
    refine qc (f := 22) (args := #[.pointer (some ⟨g, 0, none⟩), .int .i64 (rdI xs k)]) (by kernel_rfl) (R_call #[.pointer (some ⟨g, 0, none⟩), .int .i64 (rdI xs k)] Try.func22 (by kernel_rfl) (by kernel_rfl) (by kernel_rfl)) ?_
    refine (arc_some g N arcs _ (hG.below (HS.kept.below owns_nil)) (rdI xs k)).mono ?_
    rintro e W7 (⟨ha0, ha1, rfl, H_⟩ | ⟨han, rfl, H_⟩)
    · refine ⟨_, rfl, ?_⟩
      replace HS : St W (owns []) W7 [] := HS.join (F := []) (G := []) H_
      clear H_
      refine ql (.tuple #[.agg #[.int .i64 ((gx arcs (rdI xs k)).1), .int .i64 ((gx arcs (rdI xs k)).2)], .bool true]) (by kernel_rfl) (by kernel_rfl) ?_
      refine ql (.agg #[.int .i64 ((gx arcs (rdI xs k)).1), .int .i64 ((gx arcs (rdI xs k)).2)]) (by kernel_rfl) (by kernel_rfl) ?_
      refine ql (.bool true) (by kernel_rfl) (by kernel_rfl) ?_
      refine kb HS [.int .i64 0, .int .i64 0] 35 (fun g => .pointer (some ⟨g, 0, none⟩)) (by kernel_rfl) (by kernel_rfl) ?_
      intro g8 W9 H_
      replace HS : St W (owns []) W9 [blk g8 [.int .i64 0, .int .i64 0] 35] := H_
      clear H_
      refine ks (v := .agg #[.int .i64 ((gx arcs (rdI xs k)).1), .int .i64 ((gx arcs (rdI xs k)).2)]) HS 0 rfl (0) [.int .i64 ((gx arcs (rdI xs k)).1), .int .i64 ((gx arcs (rdI xs k)).2)] (by kernel_rfl) (by kernel_rfl) (by kernel_rfl) (by kernel_rfl) (by kernel_rfl) (one_ (by kernel_rfl)) (Nat.le_of_ble_eq_true rfl) rfl ?_
      intro W10 H_
      replace HS : St W (owns []) W10 [blk g8 [.int .i64 ((gx arcs (rdI xs k)).1), .int .i64 ((gx arcs (rdI xs k)).2)] 35] := H_
      clear H_
      refine ql (.bool true) (by kernel_rfl) (by kernel_rfl) ?_
      refine wpList_nil ?_
      refine x_then ?_
      refine wp_seq ?_
      refine wp_seq ?_
      refine wp_region_lit ?_
      refine ql (.bool true) (by kernel_rfl) (by kernel_rfl) ?_
      refine ql (.bool false) (by kernel_rfl) (by kernel_rfl) ?_
      refine ql (.bool false) (by kernel_rfl) (by kernel_rfl) ?_
      refine ql (.pointer (some ⟨g8, 0, none⟩)) (by kernel_rfl) (by kernel_rfl) ?_
      refine ql (.int .i64 ((gx arcs (rdI xs k)).1)) (by kernel_rfl) (R_load (p := ⟨g8, 0, none⟩) (by kernel_rfl) (by kernel_rfl) (by kernel_rfl) (HS.cell (i := 0) (j := 0) rfl rfl)) ?_
      refine ql (.int .i64 u) (by kernel_rfl) (by kernel_rfl) ?_
      by_cases hc11 : ((gx arcs (rdI xs k)).1) = u
      · skip
        refine ql (.bool false) (by kernel_rfl) (R_beq (b := ((gx arcs (rdI xs k)).1 != u)) (by kernel_rfl) (bne_f (hc11))) ?_
        refine ql (.bool false) (by kernel_rfl) (by kernel_rfl) ?_
        refine wpList_nil ?_
        refine x_then ?_
        refine wp_cond_false (by kernel_rfl) ?_
        refine wp_skip ?_
        refine x_then ?_
        refine wp_region_lit ?_
        refine ql (.pointer (some ⟨g8, 1, none⟩)) (by kernel_rfl) (by kernel_rfl) ?_
        refine ql (.int .i64 ((gx arcs (rdI xs k)).2)) (by kernel_rfl) (R_load (p := ⟨g8, 1, none⟩) (by kernel_rfl) (by kernel_rfl) (by kernel_rfl) (HS.cell (i := 0) (j := 1) rfl rfl)) ?_
        refine ql (.int .i64 ((gx arcs (rdI xs k)).2)) (by kernel_rfl) (by kernel_rfl) ?_
        refine wpList_nil ?_
        refine x_inb ?_
        refine x_then ?_
        refine wp_region_lit ?_
        refine ql (.int .i64 (k + 1)) (by kernel_rfl) (R_int (by kernel_rfl) (w64 (by omega))) ?_
        refine ql (.int .i64 (k + 1)) (by kernel_rfl) (by kernel_rfl) ?_
        refine wpList_nil ?_
        replace HS := HS.drop1
        have hst := wk_step (arcs := arcs) (xs := xs) (v := u) k0 (by omega) ⟨by omega, by omega, by omega⟩
        refine x_then ?_
        exact ⟨xs.length - (k + 1).toNat, by omega, (fun k_ : Nat => List.getD [.pointer (some ⟨g, 0, none⟩), .int .i64 ((gx arcs (rdI xs k)).2), .slice (some ad6) xs.length cl, undef, undef, undef, (J2 6), (J2 7), undef, .int .i64 (rdI xs k), .pointer (some ⟨g8, 0, none⟩), .bool true, .int .i64 v, .bool false, .bool false, .int .i64 v, .pointer (some ⟨g, 0, none⟩), .int .i64 (N : Int), .bool false, .bool false, .slice (some ad6) xs.length cl, .int .i64 (xs.length : Int), .int .i64 (k + 1), .bool true, .pointer (some (ad6.add k.toNat)), .int .i64 (rdI xs k), .tuple #[.agg #[.int .i64 ((gx arcs (rdI xs k)).1), .int .i64 ((gx arcs (rdI xs k)).2)], .bool true], .pointer (some ⟨g, 0, none⟩), .int .i64 (rdI xs k), .tuple #[.agg #[.int .i64 ((gx arcs (rdI xs k)).1), .int .i64 ((gx arcs (rdI xs k)).2)], .bool true], .agg #[.int .i64 ((gx arcs (rdI xs k)).1), .int .i64 ((gx arcs (rdI xs k)).2)], .bool true, .bool true, .bool false, .bool false, .pointer (some ⟨g8, 0, none⟩), .int .i64 ((gx arcs (rdI xs k)).1), .int .i64 u, .bool false, .bool false, .pointer (some ⟨g8, 1, none⟩), .int .i64 ((gx arcs (rdI xs k)).2), .int .i64 (k + 1), undef] k_ undef), k + 1, (gx arcs (rdI xs k)).2, congrArg Fr (by kernel_rfl), rfl, by omega, by omega, hW.trans hst, HS⟩
      · skip
        refine ql (.bool true) (by kernel_rfl) (R_beq (b := ((gx arcs (rdI xs k)).1 != u)) (by kernel_rfl) (bne_t (hc11))) ?_
        refine ql (.bool true) (by kernel_rfl) (by kernel_rfl) ?_
        refine wpList_nil ?_
        refine x_then ?_
        refine wp_cond_true (by kernel_rfl) ?_
        refine wp_seq ?_
        refine wp_region_lit ?_
        refine ql (.int .i64 0) (by kernel_rfl) (by kernel_rfl) ?_
        refine ql (.bool false) (by kernel_rfl) (by kernel_rfl) ?_
        refine wpList_nil ?_
        refine x_then ?_
        refine wp_ret ?_
        refine x_thenR ?_
        refine x_inbR ?_
        refine x_thenR ?_
        refine x_thenR ?_
        refine x_inbR ?_
        refine x_thenR ?_
        refine ret_ (.tuple #[.int .i64 0, .bool false]) (by kernel_rfl) ?_
        replace HS := HS.drop1
        have hq := wk_none (arcs := arcs) (v := u) (xs := xs) (k := k) k0 (by omega) (by rintro ⟨x1, x2, x3⟩; omega)
        exact ⟨by unfold wkN; rw [if_pos hv, hW, hq]; rfl, HS⟩
    · refine ⟨_, rfl, ?_⟩
      replace HS : St W (owns []) W7 [] := HS.join (F := []) (G := []) H_
      clear H_
      refine ql (.tuple #[.agg #[.int .i64 0, .int .i64 0], .bool false]) (by kernel_rfl) (by kernel_rfl) ?_
      refine ql (.agg #[.int .i64 0, .int .i64 0]) (by kernel_rfl) (by kernel_rfl) ?_
      refine ql (.bool false) (by kernel_rfl) (by kernel_rfl) ?_
      refine kb HS [.int .i64 0, .int .i64 0] 35 (fun g => .pointer (some ⟨g, 0, none⟩)) (by kernel_rfl) (by kernel_rfl) ?_
      intro g12 W13 H_
      replace HS : St W (owns []) W13 [blk g12 [.int .i64 0, .int .i64 0] 35] := H_
      clear H_
      refine ks (v := .agg #[.int .i64 0, .int .i64 0]) HS 0 rfl (0) [.int .i64 0, .int .i64 0] (by kernel_rfl) (by kernel_rfl) (by kernel_rfl) (by kernel_rfl) (by kernel_rfl) (one_ (by kernel_rfl)) (Nat.le_of_ble_eq_true rfl) rfl ?_
      intro W14 H_
      replace HS : St W (owns []) W14 [blk g12 [.int .i64 0, .int .i64 0] 35] := H_
      clear H_
      refine ql (.bool false) (by kernel_rfl) (by kernel_rfl) ?_
      refine wpList_nil ?_
      refine x_then ?_
      refine wp_seq ?_
      refine wp_seq ?_
      refine wp_region_lit ?_
      refine ql (.bool false) (by kernel_rfl) (by kernel_rfl) ?_
      refine ql (.bool true) (by kernel_rfl) (by kernel_rfl) ?_
      refine ql (.bool true) (by kernel_rfl) (by kernel_rfl) ?_
      refine qln (by kernel_rfl) ?_
      refine qln (by kernel_rfl) ?_
      refine qln (by kernel_rfl) ?_
      refine qln (by kernel_rfl) ?_
      refine ql (.bool true) (by kernel_rfl) (by kernel_rfl) ?_
      refine wpList_nil ?_
      refine x_then ?_
      refine wp_cond_true (by kernel_rfl) ?_
      refine wp_seq ?_
      refine wp_region_lit ?_
      refine ql (.int .i64 0) (by kernel_rfl) (by kernel_rfl) ?_
      refine ql (.bool false) (by kernel_rfl) (by kernel_rfl) ?_
      refine wpList_nil ?_
      refine x_then ?_
      refine wp_ret ?_
      refine x_thenR ?_
      refine x_inbR ?_
      refine x_thenR ?_
      refine x_thenR ?_
      refine x_inbR ?_
      refine x_thenR ?_
      refine ret_ (.tuple #[.int .i64 0, .bool false]) (by kernel_rfl) ?_
      replace HS := HS.drop1
      have hq := wk_none (arcs := arcs) (v := u) (xs := xs) (k := k) k0 (by omega) (by rintro ⟨x1, x2, x3⟩; omega)
      exact ⟨by unfold wkN; rw [if_pos hv, hW, hq]; rfl, HS⟩
  · skip
    refine ql (.bool false) (by kernel_rfl) (R_nbool (p := k < (xs.length : Int)) (by kernel_rfl) (hc5)) ?_
    refine wpList_nil ?_
    refine x_then ?_
    refine wp_seq ?_
    refine wp_cond_false (by kernel_rfl) ?_
    refine wp_exit ?_
    refine x_thenE ?_
    refine x_thenE ?_
    refine x_hit ?_
    refine x_then ?_
    refine wp_seq ?_
    refine wp_region_lit ?_
    refine ql (.int .i64 u) (by kernel_rfl) (by kernel_rfl) ?_
    refine ql (.int .i64 u) (by kernel_rfl) (by kernel_rfl) ?_
    refine ql (.bool true) (by kernel_rfl) (by kernel_rfl) ?_
    refine wpList_nil ?_
    refine x_then ?_
    refine wp_ret ?_
    refine ret_ (.tuple #[.int .i64 u, .bool true]) (by kernel_rfl) ?_
    have hq := wk_end (arcs := arcs) (v := u) (xs := xs) (k := k) (by omega)
    exact ⟨by unfold wkN; rw [if_pos hv, hW, hq]; rfl, HS⟩

set_option maxRecDepth 100000 in
set_option maxHeartbeats 1000000 in
theorem pwalk_no (g N : Nat) (arcs : List (Int × Int)) (W : World) (hG : GAt W g N arcs) (L : Option Addr) (cl : Nat) (xs : List Int) (v : Int) (hrl : Rd W L (ci .i64 xs)) (hxl : xs.length ≤ 1099511627776) (hv : ¬ (0 ≤ v ∧ v < N)) : Calls Try.prog 47 #[.pointer (some ⟨g, 0, none⟩), .int .i64 v, .slice L xs.length cl] W fun e W' => e = .returned (tup (wkN N arcs v xs)) ∧ St W (owns []) W' [] := by
  have HS : St W (owns []) W [] := St.start W _
  have hF := hG.fine
  refine calls_enter [.pointer (some ⟨g, 0, none⟩), .int .i64 v, .slice L xs.length cl, undef, undef, undef, undef, undef, undef, undef, undef, undef, undef, undef, undef, undef, undef, undef, undef, undef, undef, undef, undef, undef, undef, undef, undef, undef, undef, undef, undef, undef, undef, undef, undef, undef, undef, undef, undef, undef, undef, undef, undef, undef] Try.func47 rfl (by kernel_rfl) ?_
  refine wp_seq ?_
  refine wp_region_lit ?_
  refine ql (.int .i64 0) (by kernel_rfl) (by kernel_rfl) ?_
  refine ql (.bool false) (by kernel_rfl) (by kernel_rfl) ?_
  refine wpList_nil ?_
  refine x_then ?_
  refine wp_seq ?_
  refine wp_seq ?_
  refine wp_region_lit ?_
  refine ql (.int .i64 v) (by kernel_rfl) (by kernel_rfl) ?_
  by_cases hc1 : v < (0 : Int)
  · skip
    refine ql (.bool true) (by kernel_rfl) (R_bool (p := v < (0 : Int)) (by kernel_rfl) (hc1)) ?_
    refine ql (.bool true) (by kernel_rfl) (by kernel_rfl) ?_
    refine qln (by kernel_rfl) ?_
    refine qln (by kernel_rfl) ?_
    refine qln (by kernel_rfl) ?_
    refine qln (by kernel_rfl) ?_
    refine ql (.bool true) (by kernel_rfl) (by kernel_rfl) ?_
    refine wpList_nil ?_
    refine x_then ?_
    refine wp_cond_true (by kernel_rfl) ?_
    refine wp_seq ?_
    refine wp_region_lit ?_
    refine ql (.int .i64 0) (by kernel_rfl) (by kernel_rfl) ?_
    refine ql (.bool false) (by kernel_rfl) (by kernel_rfl) ?_
    refine wpList_nil ?_
    refine x_then ?_
    refine wp_ret ?_
    refine x_thenR ?_
    refine ret_ (.tuple #[.int .i64 0, .bool false]) (by kernel_rfl) ?_
    exact ⟨by unfold wkN; rw [if_neg hv]; rfl, HS⟩
  · skip
    refine ql (.bool false) (by kernel_rfl) (R_nbool (p := v < (0 : Int)) (by kernel_rfl) (hc1)) ?_
    refine ql (.bool false) (by kernel_rfl) (by kernel_rfl) ?_
    refine ql (.int .i64 v) (by kernel_rfl) (by kernel_rfl) ?_
    refine ql (.pointer (some ⟨g, 0, none⟩)) (by kernel_rfl) (by kernel_rfl) ?_
    refine qc (f := 17) (args := #[.pointer (some ⟨g, 0, none⟩)]) (by kernel_rfl) (R_call #[.pointer (some ⟨g, 0, none⟩)] Try.func17 (by kernel_rfl) (by kernel_rfl) (by kernel_rfl)) ?_
    refine (nodessome g N arcs _ (hG.below (HS.kept.below owns_nil))).mono ?_
    rintro e W2 ⟨rfl, H_⟩
    refine ⟨_, rfl, ?_⟩
    replace HS : St W (owns []) W2 [] := HS.join (F := []) (G := []) H_
    clear H_
    refine ql (.bool true) (by kernel_rfl) (R_bool (p := v ≥ (N : Int)) (by kernel_rfl) (by omega)) ?_
    refine ql (.bool true) (by kernel_rfl) (by kernel_rfl) ?_
    refine wpList_nil ?_
    refine x_then ?_
    refine wp_cond_true (by kernel_rfl) ?_
    refine wp_seq ?_
    refine wp_region_lit ?_
    refine ql (.int .i64 0) (by kernel_rfl) (by kernel_rfl) ?_
    refine ql (.bool false) (by kernel_rfl) (by kernel_rfl) ?_
    refine wpList_nil ?_
    refine x_then ?_
    refine wp_ret ?_
    refine x_thenR ?_
    refine ret_ (.tuple #[.int .i64 0, .bool false]) (by kernel_rfl) ?_
    exact ⟨by unfold wkN; rw [if_neg hv]; rfl, HS⟩


end Go.Proofs.Ythfpdpjccnnlhaa.GPathWalks
