/- Written for this claim by gp.py, a program of this session's, over the kit's print. Lean checks it. -/
import Derived.Test.YthfpdpjccnnlhaaGGraphTurnsx0
import Derived.Test.YthfpdpjccnnlhaaGGraphTurnshx
import Derived.Test.YthfpdpjccnnlhaaGGraphTurnshhp1
import Derived.Test.YthfpdpjccnnlhaaGGraphTurnshhp2
import Derived.Test.YthfpdpjccnnlhaaGGraphTurnshgp
import Derived.Test.YthfpdpjccnnlhaaGGraphTurnshg1
import Derived.Test.YthfpdpjccnnlhaaGGraphTurnshg2
import Derived.Test.YthfpdpjccnnlhaaGGraphTurnshg3
import Derived.Test.YthfpdpjccnnlhaaGGraphTurnshg4
import Derived.Test.YthfpdpjccnnlhaaGGraphTurnshg5
import Derived.Test.YthfpdpjccnnlhaaGGraphTurnshg6
import Derived.WalkKit
import Derived.StillTailTactics
import Derived.Deep.LoopGhost
import Derived.KernelRfl
import Derived.Deep.OwnRows
import Derived.Laws.OwnMore
import Derived.Laws.MakeOwn
import Derived.Maps.AppendAt
import Derived.OrdersHeld
namespace Go.Proofs.Ythfpdpjccnnlhaa.GGraphTurns
open Go.RowKit Go.Proofs.YthfpdpjccnnlhaaW.PrintWords Go.Proofs.YthfpdpjccnnlhaaW.PrintLast Go.Proofs.YthfpdpjccnnlhaaW.PrintMore
attribute [local go_sem] max2_int min2_int max_two min_two max_three min_three max_four min_four   -- for this text's walks alone
set_option linter.unusedVariables false
set_option linter.unusedSimpArgs false

--import Derived.WalkKit
--import Derived.StillTailTactics
--import Derived.Deep.LoopGhost
--import Derived.KernelRfl
--import Derived.Deep.OwnRows
--import Derived.Laws.OwnMore
--import Derived.Laws.MakeOwn
--import Derived.Maps.AppendAt
--import Derived.OrdersHeld
attribute [local irreducible] wpStill wpList Code.wp TA

theorem GAt.fine {W : World} {g N : Nat} {arcs : List (Int × Int)} (h : GAt W g N arcs) : Fine N arcs := by
  obtain ⟨A1, c1, A2, c2, A3, c3, A4, c4, A5, c5, os, js, hB, r1, r2, r3, r4, r5, l1, l2, hF, rest⟩ := h; exact hF

theorem swap_swap (arcs : List (Int × Int)) : (arcs.map swap).map swap = arcs := by
  rw [List.map_map, show swap ∘ swap = id from funext fun _ => rfl, List.map_id]
theorem gx_swap {arcs : List (Int × Int)} {i : Int} (h0 : 0 ≤ i) (h1 : i < arcs.length) : gx (arcs.map swap) i = ((gx arcs i).2, (gx arcs i).1) := by
  have h := gx_eq h0 h1
  have h2 := gx_eq (xs := arcs.map swap) h0 (by rw [List.length_map]; omega)
  rw [List.getElem?_map, h] at h2
  injection h2 with h2
  exact h2.symm
theorem rch_head {arcs : List (Int × Int)} {a b c : Int} (h : Rch arcs b c) (ha : (a, b) ∈ arcs) : Rch arcs a c := by
  induction h with
  | refl => exact .step .refl ha
  | step _ hb ih => exact .step ih hb
theorem rch_swap {arcs : List (Int × Int)} {a b : Int} (h : Rch arcs a b) : Rch (arcs.map swap) b a := by
  induction h with
  | refl => exact .refl
  | step _ hb ih => exact rch_head ih (List.mem_map.2 ⟨_, hb, rfl⟩)
theorem back_mem {N : Nat} {arcs : List (Int × Int)} {v x : Int} (h0 : 0 ≤ v) (h1 : v < N) (hx : x ∈ reach N arcs v) : v ∈ reach N (arcs.map swap) x :=
  mem_reach.2 ⟨h0, h1, rch_swap (mem_reach.1 hx).2.2⟩
theorem rdI_in {xs : List Int} {i : Int} (h0 : 0 ≤ i) (h1 : i < xs.length) : rdI xs i ∈ xs := by
  have h : i.toNat < xs.length := by omega
  unfold rdI
  rw [List.getD_eq_getElem?_getD, List.getElem?_eq_getElem h]
  exact List.getElem_mem h
theorem take_rd {xs : List Int} {i : Int} (h0 : 0 ≤ i) (h1 : i < xs.length) : xs.take (i + 1).toNat = xs.take i.toNat ++ [rdI xs i] := by
  have h : i.toNat < xs.length := by omega
  rw [show (i + 1).toNat = i.toNat + 1 by omega, List.take_succ_eq_append_getElem h]
  unfold rdI
  rw [List.getD_eq_getElem?_getD, List.getElem?_eq_getElem h]
  rfl
theorem arc_yes (g N : Nat) (arcs : List (Int × Int)) (W : World) (hG : GAt W g N arcs) (i : Int) (h0 : 0 ≤ i) (h1 : i < arcs.length) : Calls Try.prog 22 #[.pointer (some ⟨g, 0, none⟩), .int .i64 i] W fun e W' => e = .returned (.tuple #[.agg #[.int .i64 (gx arcs i).1, .int .i64 (gx arcs i).2], .bool true]) ∧ St W (owns []) W' [] :=
  (arc_some g N arcs W hG i).mono fun e W' h => h.elim (fun ⟨_, _, x⟩ => x) (fun ⟨hn, _⟩ => absurd ⟨h0, h1⟩ hn)
theorem ref_reach2 (N : Nat) (A : Option Addr) (c : Nat) (arcs : List (Int × Int)) (W : World) (hr : Rd W A (cf arcC arcs)) (hl : arcs.length ≤ 1048576) (v : Int) (hF : Fine N arcs) (hN : N ≤ 1048576) (h0 : 0 ≤ v) (h1 : v < N) : Calls Try.prog 28 #[.int .i64 (N : Int), .slice A arcs.length c, .int .i64 v] W fun e W' => ∃ A' c' bs, e = .returned (.slice A' bs.length c') ∧ St W (owns []) W' [row A' bs.length c' (ci .i64 bs) 3 1] ∧ bs.length = N ∧ ons bs.length bs = reach N arcs v := by
  refine (ref_reach N A c arcs W hr hl v hF hN h0 h1).mono ?_
  rintro e W' ⟨A', c', bs, he, hs, hR⟩
  have hb : bs.length = N := hR.1.len
  have ho := ons_reach hR hF
  rw [← hb] at he hs
  refine ⟨A', c', bs, he, hs, hb, ?_⟩
  rw [hb]
  exact ho

set_option maxRecDepth 100000 in
set_option maxHeartbeats 1000000 in
theorem GraphTurns_walk (n v : Int) (A : Option Addr) (c : Nat) (arcs : List (Int × Int)) (W : World) (hr : Rd W A (cf arcC arcs)) : Calls Try.prog 5 #[.int .i64 n, .slice A arcs.length c, .int .i64 v] W fun e W' => e = .returned (.bool true) ∧ St W (owns []) W' [] := by
  have HS : St W (owns []) W [] := St.start W _
  refine calls_enter ((.int .i64 n) :: (.slice A arcs.length c) :: (.int .i64 v) :: undef :: undef :: undef :: undef :: undef :: undef :: undef :: undef :: undef :: undef :: undef :: undef :: undef :: undef :: undef :: undef :: undef :: undef :: undef :: undef :: undef :: undef :: undef :: undef :: undef :: undef :: undef :: undef :: undef :: undef :: undef :: undef :: undef :: undef :: undef :: undef :: undef :: undef :: undef :: undef :: undef :: undef :: undef :: undef :: undef :: undef :: undef :: undef :: undef :: undef :: undef :: undef :: undef :: undef :: undef :: undef :: undef :: undef :: undef :: undef :: undef :: undef :: undef :: undef :: undef :: undef :: undef :: undef :: undef :: undef :: undef :: undef :: undef :: undef :: undef :: undef :: undef :: undef :: undef :: undef :: undef :: undef :: undef :: undef :: undef :: undef :: undef :: undef :: undef :: undef :: undef :: undef :: undef :: undef :: undef :: undef :: undef :: undef :: undef :: undef :: undef :: undef :: undef :: undef :: undef :: undef :: undef :: undef :: undef :: undef :: undef :: undef :: undef :: undef :: undef :: undef :: undef :: undef :: undef :: undef :: undef :: undef :: undef :: undef :: undef :: undef :: undef :: undef :: undef :: undef :: undef :: undef :: undef :: undef :: undef :: undef :: undef :: undef :: undef :: undef :: undef :: undef :: undef :: undef :: undef :: undef :: undef :: undef :: undef :: undef :: undef :: undef :: undef :: undef :: undef :: undef :: undef :: undef :: undef :: undef :: undef :: undef :: undef :: undef :: undef :: undef :: undef :: undef :: undef :: undef :: undef :: undef :: undef :: undef :: undef :: undef :: undef :: undef :: undef :: undef :: undef :: undef :: undef :: undef :: undef :: undef :: undef :: undef :: undef :: undef :: undef :: undef :: undef :: undef :: undef :: []) Try.func5 rfl (by kernel_rfl) ?_
  refine wp_seq ?_
  refine wp_region_lit ?_
  refine ql (.bool false) (by kernel_rfl) (by kernel_rfl) ?_
  refine wpList_nil ?_
  refine x_then ?_
  refine wp_seq ?_
  refine wp_seq ?_
  refine wp_region_lit ?_
  refine ql (.slice A arcs.length c) (by kernel_rfl) (by kernel_rfl) ?_
  refine ql (.int .i64 (arcs.length : Int)) (by kernel_rfl) (by kernel_rfl) ?_
  by_cases hc1 : (arcs.length : Int) > (40 : Int)
  · skip
    refine ql (.bool true) (by kernel_rfl) (R_bool (p := (arcs.length : Int) > (40 : Int)) (by kernel_rfl) (hc1)) ?_
    refine ql (.bool true) (by kernel_rfl) (by kernel_rfl) ?_
    refine qln (by kernel_rfl) ?_
    refine qln (by kernel_rfl) ?_
    refine ql (.bool true) (by kernel_rfl) (by kernel_rfl) ?_
    refine wpList_nil ?_
    refine x_then ?_
    refine wp_cond_true (by kernel_rfl) ?_
    refine wp_seq ?_
    refine wp_region_lit ?_
    refine qc (f := 12) (args := #[]) (by kernel_rfl) (R_call #[] Try.func12 (by kernel_rfl) (by kernel_rfl) (by kernel_rfl)) ?_
    refine (awake_calls _).mono ?_
    rintro e W2 ⟨rfl, H_⟩
    refine ⟨_, rfl, ?_⟩
    replace HS : St W (owns []) W2 [] := HS.join (F := []) (G := []) H_
    clear H_
    refine ql (.bool true) (by kernel_rfl) (by kernel_rfl) ?_
    refine wpList_nil ?_
    refine x_then ?_
    refine wp_ret ?_
    refine x_thenR ?_
    refine ret_ (.bool true) (by kernel_rfl) ?_
    exact ⟨rfl, HS.tail (F := [])⟩
  · skip
    refine ql (.bool false) (by kernel_rfl) (R_nbool (p := (arcs.length : Int) > (40 : Int)) (by kernel_rfl) (hc1)) ?_
    refine ql (.bool false) (by kernel_rfl) (by kernel_rfl) ?_
    refine ql (.int .i64 n) (by kernel_rfl) (by kernel_rfl) ?_
    by_cases hc3 : n > (20 : Int)
    · skip
      refine ql (.bool true) (by kernel_rfl) (R_bool (p := n > (20 : Int)) (by kernel_rfl) (hc3)) ?_
      refine ql (.bool true) (by kernel_rfl) (by kernel_rfl) ?_
      refine wpList_nil ?_
      refine x_then ?_
      refine wp_cond_true (by kernel_rfl) ?_
      refine wp_seq ?_
      refine wp_region_lit ?_
      refine qc (f := 12) (args := #[]) (by kernel_rfl) (R_call #[] Try.func12 (by kernel_rfl) (by kernel_rfl) (by kernel_rfl)) ?_
      refine (awake_calls _).mono ?_
      rintro e W4 ⟨rfl, H_⟩
      refine ⟨_, rfl, ?_⟩
      replace HS : St W (owns []) W4 [] := HS.join (F := []) (G := []) H_
      clear H_
      refine ql (.bool true) (by kernel_rfl) (by kernel_rfl) ?_
      refine wpList_nil ?_
      refine x_then ?_
      refine wp_ret ?_
      refine x_thenR ?_
      refine ret_ (.bool true) (by kernel_rfl) ?_
      exact ⟨rfl, HS.tail (F := [])⟩
    · skip
      refine ql (.bool false) (by kernel_rfl) (R_nbool (p := n > (20 : Int)) (by kernel_rfl) (hc3)) ?_
      refine ql (.bool false) (by kernel_rfl) (by kernel_rfl) ?_
      refine wpList_nil ?_
      refine x_then ?_
      refine wp_cond_false (by kernel_rfl) ?_
      refine wp_skip ?_
      refine x_then ?_
      refine wp_seq ?_
      refine wp_region_lit ?_
      refine ql (.int .i64 n) (by kernel_rfl) (by kernel_rfl) ?_
      refine ql (.slice A arcs.length c) (by kernel_rfl) (by kernel_rfl) ?_
      refine qc (f := 13) (args := #[.int .i64 n, .slice A arcs.length c]) (by kernel_rfl) (R_call #[.int .i64 n, .slice A arcs.length c] Try.func13 (by kernel_rfl) (by kernel_rfl) (by kernel_rfl)) ?_
      refine (of_calls n _ _ arcs _ (hr.old0 HS) (by first | omega | (rw [List.length_map]; omega))).mono ?_
      rintro e W5 (⟨hc, g, N, rfl, rfl, H_, hG⟩ | ⟨hc, rfl, H_⟩)
      · refine ⟨_, rfl, ?_⟩
        replace HS : St W (owns []) W5 [] := HS.join (F := []) (G := []) H_
        clear H_
        have HB6 := HS
        replace hr := hr.below (HB6.kept.below owns_nil)
        clear HS
        have HS : St W5 (owns []) W5 [] := St.start _ _
        have hFF := hG.fine
        refine ql (.tuple #[.pointer (some ⟨g, 0, none⟩), .int .i64 0]) (by kernel_rfl) (by kernel_rfl) ?_
        refine ql (.pointer (some ⟨g, 0, none⟩)) (by kernel_rfl) (by kernel_rfl) ?_
        refine ql (.int .i64 0) (by kernel_rfl) (by kernel_rfl) ?_
        refine ql (.pointer (some ⟨g, 0, none⟩)) (by kernel_rfl) (by kernel_rfl) ?_
        refine ql (.int .i64 0) (by kernel_rfl) (by kernel_rfl) ?_
        refine wpList_nil ?_
        refine x_then ?_
        refine wp_seq ?_
        refine wp_seq ?_
        refine wp_region_lit ?_
        refine ql (.int .i64 0) (by kernel_rfl) (by kernel_rfl) ?_
        refine ql (.bool false) (by kernel_rfl) (R_beq (b := ((0 : Int) != 0)) (by kernel_rfl) (by decide)) ?_
        refine wpList_nil ?_
        refine x_then ?_
        refine wp_cond_false (by kernel_rfl) ?_
        refine wp_skip ?_
        refine x_then ?_
        refine wp_seq ?_
        refine wp_region_lit ?_
        refine ql (.pointer (some ⟨g, 0, none⟩)) (by kernel_rfl) (by kernel_rfl) ?_
        refine qc (f := 21) (args := #[.pointer (some ⟨g, 0, none⟩)]) (by kernel_rfl) (R_call #[.pointer (some ⟨g, 0, none⟩)] Try.func21 (by kernel_rfl) (by kernel_rfl) (by kernel_rfl)) ?_
        refine (turn_some g N arcs _ (hG.below (HS.kept.below owns_nil))).mono ?_
        rintro e W9 ⟨g7, rfl, H_, hG8⟩
        refine ⟨_, rfl, ?_⟩
        replace HS : St W5 (owns []) W9 [] := HS.join (F := []) (G := []) H_
        clear H_
        have HB10 := HS
        replace hr := hr.below (HB10.kept.below owns_nil)
        replace hG := hG.below (HB10.kept.below owns_nil)
        clear HS
        have HS : St W9 (owns []) W9 [] := St.start _ _
        refine ql (.pointer (some ⟨g7, 0, none⟩)) (by kernel_rfl) (by kernel_rfl) ?_
        refine wpList_nil ?_
        refine x_then ?_
        refine wp_seq ?_
        refine wp_region_lit ?_
        refine ql (.pointer (some ⟨g7, 0, none⟩)) (by kernel_rfl) (by kernel_rfl) ?_
        refine qc (f := 21) (args := #[.pointer (some ⟨g7, 0, none⟩)]) (by kernel_rfl) (R_call #[.pointer (some ⟨g7, 0, none⟩)] Try.func21 (by kernel_rfl) (by kernel_rfl) (by kernel_rfl)) ?_
        refine (turn_some g7 N (arcs.map swap) _ (hG8.below (HS.kept.below owns_nil))).mono ?_
        rintro e W13 ⟨g11, rfl, H_, hG12⟩
        refine ⟨_, rfl, ?_⟩
        replace HS : St W9 (owns []) W13 [] := HS.join (F := []) (G := []) H_
        clear H_
        rw [swap_swap] at hG12
        have HB14 := HS
        replace hr := hr.below (HB14.kept.below owns_nil)
        replace hG := hG.below (HB14.kept.below owns_nil)
        replace hG8 := hG8.below (HB14.kept.below owns_nil)
        clear HS
        have HS : St W13 (owns []) W13 [] := St.start _ _
        refine ql (.pointer (some ⟨g11, 0, none⟩)) (by kernel_rfl) (by kernel_rfl) ?_
        refine wpList_nil ?_
        refine x_then ?_
        refine wp_seq ?_
        refine wp_seq ?_
        refine wp_region_lit ?_
        refine ql (.pointer (some ⟨g7, 0, none⟩)) (by kernel_rfl) (by kernel_rfl) ?_
        refine ql (.bool false) (by kernel_rfl) (by kernel_rfl) ?_
        refine ql (.bool false) (by kernel_rfl) (by kernel_rfl) ?_
        refine ql (.pointer (some ⟨g11, 0, none⟩)) (by kernel_rfl) (by kernel_rfl) ?_
        refine ql (.bool false) (by kernel_rfl) (by kernel_rfl) ?_
        refine ql (.bool false) (by kernel_rfl) (by kernel_rfl) ?_
        refine ql (.bool false) (by kernel_rfl) (by kernel_rfl) ?_
        refine ql (.pointer (some ⟨g7, 0, none⟩)) (by kernel_rfl) (by kernel_rfl) ?_
        refine qc (f := 17) (args := #[.pointer (some ⟨g7, 0, none⟩)]) (by kernel_rfl) (R_call #[.pointer (some ⟨g7, 0, none⟩)] Try.func17 (by kernel_rfl) (by kernel_rfl) (by kernel_rfl)) ?_
        refine (nodessome g7 N (arcs.map swap) _ (hG8.below (HS.kept.below owns_nil))).mono ?_
        rintro e W15 ⟨rfl, H_⟩
        refine ⟨_, rfl, ?_⟩
        replace HS : St W13 (owns []) W15 [] := HS.join (F := []) (G := []) H_
        clear H_
        refine ql (.int .i64 (N : Int)) (by kernel_rfl) (by kernel_rfl) ?_
        refine ql (.bool false) (by kernel_rfl) (R_beq (b := ((N : Int) != (N : Int))) (by kernel_rfl) (bne_f (by omega))) ?_
        refine ql (.bool false) (by kernel_rfl) (by kernel_rfl) ?_
        refine ql (.bool false) (by kernel_rfl) (by kernel_rfl) ?_
        refine ql (.pointer (some ⟨g7, 0, none⟩)) (by kernel_rfl) (by kernel_rfl) ?_
        refine qc (f := 18) (args := #[.pointer (some ⟨g7, 0, none⟩)]) (by kernel_rfl) (R_call #[.pointer (some ⟨g7, 0, none⟩)] Try.func18 (by kernel_rfl) (by kernel_rfl) (by kernel_rfl)) ?_
        refine (arcs_some g7 N (arcs.map swap) _ (hG8.below (HS.kept.below owns_nil))).mono ?_
        rintro e W16 ⟨rfl, H_⟩
        refine ⟨_, rfl, ?_⟩
        replace HS : St W13 (owns []) W16 [] := HS.join (F := []) (G := []) H_
        clear H_
        refine ql (.slice A arcs.length c) (by kernel_rfl) (by kernel_rfl) ?_
        refine ql (.int .i64 (arcs.length : Int)) (by kernel_rfl) (by kernel_rfl) ?_
        refine ql (.bool false) (by kernel_rfl) (R_beq (b := (((arcs.map swap).length : Int) != (arcs.length : Int))) (by kernel_rfl) (bne_f (by rw [List.length_map]))) ?_
        refine ql (.bool false) (by kernel_rfl) (by kernel_rfl) ?_
        refine wpList_nil ?_
        refine x_then ?_
        refine wp_cond_false (by kernel_rfl) ?_
        refine wp_skip ?_
        refine x_then ?_
        refine wp_seq ?_
        refine wp_seq ?_
        refine wp_region_lit ?_
        refine ql (.int .i64 0) (by kernel_rfl) (by kernel_rfl) ?_
        refine wpList_nil ?_
        refine x_then ?_
        refine wp_block ?_
        refine wp_loop_ghost (fun kq a' w' => ∃ (j6 : Value) (j12 : Value) (j13 : Value) (j14 : Value) (j15 : Value) (j65 : Value) (j66 : Value) (j67 : Value) (j68 : Value) (j69 : Value) (j70 : Value) (j71 : Value) (j72 : Value) (j73 : Value) (j74 : Value) (j75 : Value) (j76 : Value) (j77 : Value) (j78 : Value) (j79 : Value) (j80 : Value) (j81 : Value) (j82 : Value) (j83 : Value) (j84 : Value) (j85 : Value) (j86 : Value) (j87 : Value) (j88 : Value) (j89 : Value) (j90 : Value) (j91 : Value) (j92 : Value) (j93 : Value) (j94 : Value) (j95 : Value) (j96 : Value) (j97 : Value) (j98 : Value) (j99 : Value) (j100 : Value) (j101 : Value) (j102 : Value) (j103 : Value) (j104 : Value) (j105 : Value) (j106 : Value) (j107 : Value) (j108 : Value) (j109 : Value) (j110 : Value) (j111 : Value) (j112 : Value) (j113 : Value) (j114 : Value) (j115 : Value) (j116 : Value) (j117 : Value) (j118 : Value) (j119 : Value) (j120 : Value) (i : Int) , a' = Fr ((.int .i64 (N : Int)) :: (.slice A arcs.length c) :: (.int .i64 v) :: undef :: undef :: undef :: j6 :: (.pointer (some ⟨g, 0, none⟩)) :: (.int .i64 0) :: (.pointer (some ⟨g7, 0, none⟩)) :: (.pointer (some ⟨g11, 0, none⟩)) :: (.int .i64 i) :: j12 :: j13 :: j14 :: j15 :: undef :: undef :: undef :: undef :: undef :: (.slice A arcs.length c) :: (.int .i64 (arcs.length : Int)) :: (.bool false) :: (.bool false) :: (.int .i64 (N : Int)) :: (.bool false) :: (.bool false) :: undef :: (.tuple #[.pointer (some ⟨g, 0, none⟩), .int .i64 0]) :: (.int .i64 (N : Int)) :: (.slice A arcs.length c) :: (.tuple #[.pointer (some ⟨g, 0, none⟩), .int .i64 0]) :: (.pointer (some ⟨g, 0, none⟩)) :: (.int .i64 0) :: (.int .i64 0) :: (.bool false) :: undef :: undef :: undef :: undef :: undef :: (.pointer (some ⟨g, 0, none⟩)) :: (.pointer (some ⟨g7, 0, none⟩)) :: (.pointer (some ⟨g7, 0, none⟩)) :: (.pointer (some ⟨g11, 0, none⟩)) :: (.pointer (some ⟨g7, 0, none⟩)) :: (.bool false) :: (.bool false) :: (.pointer (some ⟨g11, 0, none⟩)) :: (.bool false) :: (.bool false) :: (.bool false) :: (.pointer (some ⟨g7, 0, none⟩)) :: (.int .i64 (N : Int)) :: (.int .i64 (N : Int)) :: (.bool false) :: (.bool false) :: (.bool false) :: (.pointer (some ⟨g7, 0, none⟩)) :: (.int .i64 ((arcs.map swap).length : Int)) :: (.slice A arcs.length c) :: (.int .i64 (arcs.length : Int)) :: (.bool false) :: (.bool false) :: j65 :: j66 :: j67 :: j68 :: j69 :: j70 :: j71 :: j72 :: j73 :: j74 :: j75 :: j76 :: j77 :: j78 :: j79 :: j80 :: j81 :: j82 :: j83 :: j84 :: j85 :: j86 :: j87 :: j88 :: j89 :: j90 :: j91 :: j92 :: j93 :: j94 :: j95 :: j96 :: j97 :: j98 :: j99 :: j100 :: j101 :: j102 :: j103 :: j104 :: j105 :: j106 :: j107 :: j108 :: j109 :: j110 :: j111 :: j112 :: j113 :: j114 :: j115 :: j116 :: j117 :: j118 :: j119 :: j120 :: undef :: undef :: undef :: undef :: undef :: undef :: undef :: undef :: undef :: undef :: undef :: undef :: undef :: undef :: undef :: undef :: undef :: undef :: undef :: undef :: undef :: undef :: undef :: undef :: undef :: undef :: undef :: undef :: undef :: undef :: undef :: undef :: undef :: undef :: undef :: undef :: undef :: undef :: undef :: undef :: undef :: undef :: undef :: undef :: undef :: undef :: undef :: undef :: undef :: undef :: undef :: undef :: undef :: undef :: undef :: undef :: undef :: undef :: undef :: undef :: undef :: undef :: undef :: undef :: undef :: undef :: undef :: undef :: undef :: undef :: undef :: undef :: undef :: undef :: undef :: undef :: undef :: []) ∧ kq = (arcs.length - (i).toNat) ∧ (0 ≤ i) ∧ (i ≤ arcs.length) ∧ St W13 (owns []) w' []) (arcs.length - ((0 : Int)).toNat) ⟨(.bool false : Value), (undef : Value), (undef : Value), (undef : Value), (undef : Value), (undef : Value), (undef : Value), (undef : Value), (undef : Value), (undef : Value), (undef : Value), (undef : Value), (undef : Value), (undef : Value), (undef : Value), (undef : Value), (undef : Value), (undef : Value), (undef : Value), (undef : Value), (undef : Value), (undef : Value), (undef : Value), (undef : Value), (undef : Value), (undef : Value), (undef : Value), (undef : Value), (undef : Value), (undef : Value), (undef : Value), (undef : Value), (undef : Value), (undef : Value), (undef : Value), (undef : Value), (undef : Value), (undef : Value), (undef : Value), (undef : Value), (undef : Value), (undef : Value), (undef : Value), (undef : Value), (undef : Value), (undef : Value), (undef : Value), (undef : Value), (undef : Value), (undef : Value), (undef : Value), (undef : Value), (undef : Value), (undef : Value), (undef : Value), (undef : Value), (undef : Value), (undef : Value), (undef : Value), (undef : Value), (undef : Value), (0 : Int), congrArg Fr (by kernel_rfl), rfl, by omega, by omega, HS⟩ ?_
        clear HS
        intro kq17 a' W18 hrel
        obtain ⟨j6, j12, j13, j14, j15, j65, j66, j67, j68, j69, j70, j71, j72, j73, j74, j75, j76, j77, j78, j79, j80, j81, j82, j83, j84, j85, j86, j87, j88, j89, j90, j91, j92, j93, j94, j95, j96, j97, j98, j99, j100, j101, j102, j103, j104, j105, j106, j107, j108, j109, j110, j111, j112, j113, j114, j115, j116, j117, j118, j119, j120, i, rfl, hk, i0, i1, HS⟩ := hrel
        refine wp_seq ?_
        refine wp_seq ?_
        refine wp_region_lit ?_
        refine ql (.int .i64 i) (by kernel_rfl) (by kernel_rfl) ?_
        refine ql (.slice A arcs.length c) (by kernel_rfl) (by kernel_rfl) ?_
        refine ql (.int .i64 (arcs.length : Int)) (by kernel_rfl) (by kernel_rfl) ?_
        by_cases hc19 : i < (arcs.length : Int)
        · skip
          refine ql (.bool true) (by kernel_rfl) (R_bool (p := i < (arcs.length : Int)) (by kernel_rfl) (hc19)) ?_
          refine wpList_nil ?_
          refine x_then ?_
          refine wp_cond_true (by kernel_rfl) ?_
          refine wp_skip ?_
          refine x_then ?_
          refine wp_seq ?_
          refine wp_block ?_
          refine wp_seq ?_
          refine wp_region_lit ?_
          refine ql (.pointer (some ⟨g7, 0, none⟩)) (by kernel_rfl) (by kernel_rfl) ?_
          refine ql (.int .i64 i) (by kernel_rfl) (by kernel_rfl) ?_
          refine qc (f := 22) (args := #[.pointer (some ⟨g7, 0, none⟩), .int .i64 i]) (by kernel_rfl) (R_call #[.pointer (some ⟨g7, 0, none⟩), .int .i64 i] Try.func22 (by kernel_rfl) (by kernel_rfl) (by kernel_rfl)) ?_
          refine (arc_yes g7 N (arcs.map swap) _ (hG8.below (HS.kept.below owns_nil)) i (by omega) (by first | omega | (rw [List.length_map]; omega))).mono ?_
          rintro e W20 ⟨rfl, H_⟩
          refine ⟨_, rfl, ?_⟩
          replace HS : St W13 (owns []) W20 [] := HS.join (F := []) (G := []) H_
          clear H_
          refine ql (.tuple #[.agg #[.int .i64 ((gx (arcs.map swap) i).1), .int .i64 ((gx (arcs.map swap) i).2)], .bool true]) (by kernel_rfl) (by kernel_rfl) ?_
          refine ql (.agg #[.int .i64 ((gx (arcs.map swap) i).1), .int .i64 ((gx (arcs.map swap) i).2)]) (by kernel_rfl) (by kernel_rfl) ?_
          refine ql (.bool true) (by kernel_rfl) (by kernel_rfl) ?_
          refine kb HS [.int .i64 0, .int .i64 0] 35 (fun g => .pointer (some ⟨g, 0, none⟩)) (by kernel_rfl) (by kernel_rfl) ?_
          intro g21 W22 H_
          replace HS : St W13 (owns []) W22 [blk g21 [.int .i64 0, .int .i64 0] 35] := H_
          clear H_
          refine ks (v := .agg #[.int .i64 ((gx (arcs.map swap) i).1), .int .i64 ((gx (arcs.map swap) i).2)]) HS 0 rfl (0) [.int .i64 ((gx (arcs.map swap) i).1), .int .i64 ((gx (arcs.map swap) i).2)] (by kernel_rfl) (by kernel_rfl) (by kernel_rfl) (by kernel_rfl) (by kernel_rfl) (one_ (by kernel_rfl)) (Nat.le_of_ble_eq_true rfl) rfl ?_
          intro W23 H_
          replace HS : St W13 (owns []) W23 [blk g21 [.int .i64 ((gx (arcs.map swap) i).1), .int .i64 ((gx (arcs.map swap) i).2)] 35] := H_
          clear H_
          refine ql (.bool true) (by kernel_rfl) (by kernel_rfl) ?_
          refine wpList_nil ?_
          refine x_then ?_
          refine wp_seq ?_
          refine wp_region_lit ?_
          refine ql (.pointer (some ⟨g11, 0, none⟩)) (by kernel_rfl) (by kernel_rfl) ?_
          refine ql (.int .i64 i) (by kernel_rfl) (by kernel_rfl) ?_
          refine qc (f := 22) (args := #[.pointer (some ⟨g11, 0, none⟩), .int .i64 i]) (by kernel_rfl) (R_call #[.pointer (some ⟨g11, 0, none⟩), .int .i64 i] Try.func22 (by kernel_rfl) (by kernel_rfl) (by kernel_rfl)) ?_
          refine (arc_yes g11 N arcs _ (hG12.below (HS.kept.below owns_nil)) i (by omega) (by first | omega | (rw [List.length_map]; omega))).mono ?_
          rintro e W24 ⟨rfl, H_⟩
          refine ⟨_, rfl, ?_⟩
          replace HS : St W13 (owns []) W24 [blk g21 [.int .i64 ((gx (arcs.map swap) i).1), .int .i64 ((gx (arcs.map swap) i).2)] 35] := HS.join (F := []) (G := []) H_
          clear H_
          refine ql (.tuple #[.agg #[.int .i64 ((gx arcs i).1), .int .i64 ((gx arcs i).2)], .bool true]) (by kernel_rfl) (by kernel_rfl) ?_
          refine ql (.agg #[.int .i64 ((gx arcs i).1), .int .i64 ((gx arcs i).2)]) (by kernel_rfl) (by kernel_rfl) ?_
          refine ql (.bool true) (by kernel_rfl) (by kernel_rfl) ?_
          refine kb HS [.int .i64 0, .int .i64 0] 35 (fun g => .pointer (some ⟨g, 0, none⟩)) (by kernel_rfl) (by kernel_rfl) ?_
          intro g25 W26 H_
          replace HS : St W13 (owns []) W26 [blk g25 [.int .i64 0, .int .i64 0] 35, blk g21 [.int .i64 ((gx (arcs.map swap) i).1), .int .i64 ((gx (arcs.map swap) i).2)] 35] := H_
          clear H_
          refine ks (v := .agg #[.int .i64 ((gx arcs i).1), .int .i64 ((gx arcs i).2)]) HS 0 rfl (0) [.int .i64 ((gx arcs i).1), .int .i64 ((gx arcs i).2)] (by kernel_rfl) (by kernel_rfl) (by kernel_rfl) (by kernel_rfl) (by kernel_rfl) (one_ (by kernel_rfl)) (Nat.le_of_ble_eq_true rfl) rfl ?_
          intro W27 H_
          replace HS : St W13 (owns []) W27 [blk g25 [.int .i64 ((gx arcs i).1), .int .i64 ((gx arcs i).2)] 35, blk g21 [.int .i64 ((gx (arcs.map swap) i).1), .int .i64 ((gx (arcs.map swap) i).2)] 35] := H_
          clear H_
          refine ql (.bool true) (by kernel_rfl) (by kernel_rfl) ?_
          refine wpList_nil ?_
          refine x_then ?_
          refine wp_seq ?_
          refine rg_still HS 37 (by kernel_rfl) (by kernel_rfl) ?_
          intro W28 H_ HK_
          simp only [List.take_succ_cons, List.take_zero, List.drop_succ_cons, List.drop_zero]
          replace HS : St W13 (owns []) W28 [blk g25 [.int .i64 ((gx arcs i).1), .int .i64 ((gx arcs i).2)] 35, blk g21 [.int .i64 ((gx (arcs.map swap) i).1), .int .i64 ((gx (arcs.map swap) i).2)] 35] := H_
          clear H_
          clear HK_
          refine qs (.pointer (some ⟨g21, 0, none⟩)) (by kernel_rfl) (by kernel_rfl) ?_
          refine qs (.int .i64 ((gx (arcs.map swap) i).1)) (by kernel_rfl) (R_load (p := ⟨g21, 0, none⟩) (by kernel_rfl) (by kernel_rfl) (by kernel_rfl) (HS.cell (i := 1) (j := 0) rfl rfl)) ?_
          refine qs (.slice A arcs.length c) (by kernel_rfl) (by kernel_rfl) ?_
          refine qs (.int .i64 i) (by kernel_rfl) (by kernel_rfl) ?_
          obtain ⟨ad29, rfl⟩ := Rd.isSome_ hr (by rw [cf_len (z := 2) (fun _ => rfl)]; omega)
          refine qs (.pointer (some (ad29.add (i.toNat * 2)))) (by kernel_rfl) (R_indexA (k := .i64) (p := ad29) (n := arcs.length) (c := c) (i := i) (by kernel_rfl) (by kernel_rfl) Try.underlying22 (by kernel_rfl) (by omega) (by omega)) ?_
          refine qs (.pointer (some ((ad29.add (i.toNat * 2)).add 1))) (by kernel_rfl) (by kernel_rfl) ?_
          refine qs (.int .i64 ((gx arcs i).2)) (by kernel_rfl) (R_load (p := (ad29.add (i.toNat * 2)).add 1) (by kernel_rfl) (by kernel_rfl) (by kernel_rfl) (HS.old0 (Rd.elem1 (k := 1) (f := arcC) (fun _ => rfl) hr (gx_eq (by omega) (by omega)) rfl))) ?_
          refine qs (.bool false) (by kernel_rfl) (R_beq (b := ((gx (arcs.map swap) i).1 != (gx arcs i).2)) (by kernel_rfl) (bne_f (by rw [gx_swap (by omega) (by omega)]))) ?_
          refine qs (.bool false) (by kernel_rfl) (by kernel_rfl) ?_
          refine qs (.pointer (some ⟨g21, 1, none⟩)) (by kernel_rfl) (by kernel_rfl) ?_
          refine qs (.int .i64 ((gx (arcs.map swap) i).2)) (by kernel_rfl) (R_load (p := ⟨g21, 1, none⟩) (by kernel_rfl) (by kernel_rfl) (by kernel_rfl) (HS.cell (i := 1) (j := 1) rfl rfl)) ?_
          refine qs (.slice (some ad29) arcs.length c) (by kernel_rfl) (by kernel_rfl) ?_
          refine qs (.int .i64 i) (by kernel_rfl) (by kernel_rfl) ?_
          refine qs (.pointer (some (ad29.add (i.toNat * 2)))) (by kernel_rfl) (R_indexA (k := .i64) (p := ad29) (n := arcs.length) (c := c) (i := i) (by kernel_rfl) (by kernel_rfl) Try.underlying22 (by kernel_rfl) (by omega) (by omega)) ?_
          refine qs (.pointer (some (ad29.add (i.toNat * 2)))) (by kernel_rfl) (by kernel_rfl) ?_
          refine qs (.int .i64 ((gx arcs i).1)) (by kernel_rfl) (R_load (p := ad29.add (i.toNat * 2)) (by kernel_rfl) (by kernel_rfl) (by kernel_rfl) (HS.old0 (Rd.elem0 (f := arcC) (fun _ => rfl) hr (gx_eq (by omega) (by omega)) rfl))) ?_
          refine qs (.bool false) (by kernel_rfl) (R_beq (b := ((gx (arcs.map swap) i).2 != (gx arcs i).1)) (by kernel_rfl) (bne_f (by rw [gx_swap (by omega) (by omega)]))) ?_
          refine qs (.bool false) (by kernel_rfl) (by kernel_rfl) ?_
          refine qs (.bool false) (by kernel_rfl) (by kernel_rfl) ?_
          refine qs (.pointer (some ⟨g25, 0, none⟩)) (by kernel_rfl) (by kernel_rfl) ?_
          refine qs (.int .i64 ((gx arcs i).1)) (by kernel_rfl) (R_load (p := ⟨g25, 0, none⟩) (by kernel_rfl) (by kernel_rfl) (by kernel_rfl) (HS.cell (i := 0) (j := 0) rfl rfl)) ?_
          refine qs (.slice (some ad29) arcs.length c) (by kernel_rfl) (by kernel_rfl) ?_
          refine qs (.int .i64 i) (by kernel_rfl) (by kernel_rfl) ?_
          refine qs (.pointer (some (ad29.add (i.toNat * 2)))) (by kernel_rfl) (R_indexA (k := .i64) (p := ad29) (n := arcs.length) (c := c) (i := i) (by kernel_rfl) (by kernel_rfl) Try.underlying22 (by kernel_rfl) (by omega) (by omega)) ?_
          refine qs (.pointer (some (ad29.add (i.toNat * 2)))) (by kernel_rfl) (by kernel_rfl) ?_
          refine qs (.int .i64 ((gx arcs i).1)) (by kernel_rfl) (R_load (p := ad29.add (i.toNat * 2)) (by kernel_rfl) (by kernel_rfl) (by kernel_rfl) (HS.old0 (Rd.elem0 (f := arcC) (fun _ => rfl) hr (gx_eq (by omega) (by omega)) rfl))) ?_
          refine qs (.bool false) (by kernel_rfl) (R_beq (b := ((gx arcs i).1 != (gx arcs i).1)) (by kernel_rfl) (bne_f (by omega))) ?_
          refine qs (.bool false) (by kernel_rfl) (by kernel_rfl) ?_
          refine qs (.bool false) (by kernel_rfl) (by kernel_rfl) ?_
          refine qs (.pointer (some ⟨g25, 1, none⟩)) (by kernel_rfl) (by kernel_rfl) ?_
          refine qs (.int .i64 ((gx arcs i).2)) (by kernel_rfl) (R_load (p := ⟨g25, 1, none⟩) (by kernel_rfl) (by kernel_rfl) (by kernel_rfl) (HS.cell (i := 0) (j := 1) rfl rfl)) ?_
          refine qs (.slice (some ad29) arcs.length c) (by kernel_rfl) (by kernel_rfl) ?_
          refine qs (.int .i64 i) (by kernel_rfl) (by kernel_rfl) ?_
          refine qs (.pointer (some (ad29.add (i.toNat * 2)))) (by kernel_rfl) (R_indexA (k := .i64) (p := ad29) (n := arcs.length) (c := c) (i := i) (by kernel_rfl) (by kernel_rfl) Try.underlying22 (by kernel_rfl) (by omega) (by omega)) ?_
          refine qs (.pointer (some ((ad29.add (i.toNat * 2)).add 1))) (by kernel_rfl) (by kernel_rfl) ?_
          refine qs (.int .i64 ((gx arcs i).2)) (by kernel_rfl) (R_load (p := (ad29.add (i.toNat * 2)).add 1) (by kernel_rfl) (by kernel_rfl) (by kernel_rfl) (HS.old0 (Rd.elem1 (k := 1) (f := arcC) (fun _ => rfl) hr (gx_eq (by omega) (by omega)) rfl))) ?_
          refine qs (.bool false) (by kernel_rfl) (R_beq (b := ((gx arcs i).2 != (gx arcs i).2)) (by kernel_rfl) (bne_f (by omega))) ?_
          refine wpStill_nil ?_
          refine ql (.bool false) (by kernel_rfl) (by kernel_rfl) ?_
          refine wpList_nil ?_
          refine x_then ?_
          refine wp_cond_false (by kernel_rfl) ?_
          refine wp_skip ?_
          refine x_inb ?_
          refine x_then ?_
          refine wp_region_lit ?_
          refine ql (.int .i64 i) (by kernel_rfl) (by kernel_rfl) ?_
          refine ql (.int .i64 (i + 1)) (by kernel_rfl) (R_int (by kernel_rfl) (w64 (by omega))) ?_
          refine ql (.int .i64 (i + 1)) (by kernel_rfl) (by kernel_rfl) ?_
          refine wpList_nil ?_
          replace HS := HS.drop1
          replace HS := HS.drop1
          refine x_then ?_
          exact ⟨arcs.length - (i + 1).toNat, by omega, (j6 : Value), (.pointer (some ⟨g21, 0, none⟩) : Value), (.bool true : Value), (.pointer (some ⟨g25, 0, none⟩) : Value), (.bool true : Value), (.int .i64 i : Value), (.slice (some ad29) arcs.length c : Value), (.int .i64 (arcs.length : Int) : Value), (.bool true : Value), (.int .i64 i : Value), (.int .i64 (i + 1) : Value), (.tuple #[.agg #[.int .i64 ((gx (arcs.map swap) i).1), .int .i64 ((gx (arcs.map swap) i).2)], .bool true] : Value), (.pointer (some ⟨g7, 0, none⟩) : Value), (.int .i64 i : Value), (.tuple #[.agg #[.int .i64 ((gx (arcs.map swap) i).1), .int .i64 ((gx (arcs.map swap) i).2)], .bool true] : Value), (.agg #[.int .i64 ((gx (arcs.map swap) i).1), .int .i64 ((gx (arcs.map swap) i).2)] : Value), (.bool true : Value), (.tuple #[.agg #[.int .i64 ((gx arcs i).1), .int .i64 ((gx arcs i).2)], .bool true] : Value), (.pointer (some ⟨g11, 0, none⟩) : Value), (.int .i64 i : Value), (.tuple #[.agg #[.int .i64 ((gx arcs i).1), .int .i64 ((gx arcs i).2)], .bool true] : Value), (.agg #[.int .i64 ((gx arcs i).1), .int .i64 ((gx arcs i).2)] : Value), (.bool true : Value), (.pointer (some ⟨g21, 0, none⟩) : Value), (.int .i64 ((gx (arcs.map swap) i).1) : Value), (.slice (some ad29) arcs.length c : Value), (.int .i64 i : Value), (.pointer (some (ad29.add (i.toNat * 2))) : Value), (.pointer (some ((ad29.add (i.toNat * 2)).add 1)) : Value), (.int .i64 ((gx arcs i).2) : Value), (.bool false : Value), (.bool false : Value), (.pointer (some ⟨g21, 1, none⟩) : Value), (.int .i64 ((gx (arcs.map swap) i).2) : Value), (.slice (some ad29) arcs.length c : Value), (.int .i64 i : Value), (.pointer (some (ad29.add (i.toNat * 2))) : Value), (.pointer (some (ad29.add (i.toNat * 2))) : Value), (.int .i64 ((gx arcs i).1) : Value), (.bool false : Value), (.bool false : Value), (.bool false : Value), (.pointer (some ⟨g25, 0, none⟩) : Value), (.int .i64 ((gx arcs i).1) : Value), (.slice (some ad29) arcs.length c : Value), (.int .i64 i : Value), (.pointer (some (ad29.add (i.toNat * 2))) : Value), (.pointer (some (ad29.add (i.toNat * 2))) : Value), (.int .i64 ((gx arcs i).1) : Value), (.bool false : Value), (.bool false : Value), (.bool false : Value), (.pointer (some ⟨g25, 1, none⟩) : Value), (.int .i64 ((gx arcs i).2) : Value), (.slice (some ad29) arcs.length c : Value), (.int .i64 i : Value), (.pointer (some (ad29.add (i.toNat * 2))) : Value), (.pointer (some ((ad29.add (i.toNat * 2)).add 1)) : Value), (.int .i64 ((gx arcs i).2) : Value), (.bool false : Value), (.bool false : Value), i + 1, congrArg Fr (by kernel_rfl), rfl, by omega, by omega, HS⟩
        · skip
          refine ql (.bool false) (by kernel_rfl) (R_nbool (p := i < (arcs.length : Int)) (by kernel_rfl) (hc19)) ?_
          refine wpList_nil ?_
          refine x_then ?_
          refine wp_cond_false (by kernel_rfl) ?_
          refine wp_exit ?_
          refine x_thenE ?_
          refine x_thenE ?_
          refine x_hit ?_
          refine x_then ?_
          refine wp_seq ?_
          refine wp_seq ?_
          refine wp_region_lit ?_
          refine ql (.int .i64 v) (by kernel_rfl) (by kernel_rfl) ?_
          by_cases hc30 : v < (0 : Int)
          · skip
            refine ql (.bool true) (by kernel_rfl) (R_bool (p := v < (0 : Int)) (by kernel_rfl) (hc30)) ?_
            refine ql (.bool true) (by kernel_rfl) (by kernel_rfl) ?_
            refine qln (by kernel_rfl) ?_
            refine qln (by kernel_rfl) ?_
            refine qln (by kernel_rfl) ?_
            refine ql (.bool true) (by kernel_rfl) (by kernel_rfl) ?_
            refine wpList_nil ?_
            refine x_then ?_
            refine wp_cond_true (by kernel_rfl) ?_
            refine wp_seq ?_
            refine wp_region_lit ?_
            refine ql (.pointer (some ⟨g, 0, none⟩)) (by kernel_rfl) (by kernel_rfl) ?_
            refine ql (.int .i64 v) (by kernel_rfl) (by kernel_rfl) ?_
            refine qc (f := 14) (args := #[.pointer (some ⟨g, 0, none⟩), .int .i64 v]) (by kernel_rfl) (R_call #[.pointer (some ⟨g, 0, none⟩), .int .i64 v] Try.func14 (by kernel_rfl) (by kernel_rfl) (by kernel_rfl)) ?_
            refine (reach_no g N arcs _ (hG.below (HS.kept.below owns_nil)) v (by omega)).mono ?_
            rintro e W33 ⟨rfl, H_⟩
            refine ⟨_, rfl, ?_⟩
            replace HS : St W13 (owns []) W33 [] := HS.join (F := []) (G := []) H_
            clear H_
            refine ql (.int .i64 0) (by kernel_rfl) (by kernel_rfl) ?_
            refine ql (.bool true) (by kernel_rfl) (R_beq (b := ((0 : Int) == 0)) (by kernel_rfl) (by decide)) ?_
            refine ql (.bool true) (by kernel_rfl) (by kernel_rfl) ?_
            refine qc (f := 12) (args := #[]) (by kernel_rfl) (R_call #[] Try.func12 (by kernel_rfl) (by kernel_rfl) (by kernel_rfl)) ?_
            refine (awake_calls _).mono ?_
            rintro e W34 ⟨rfl, H_⟩
            refine ⟨_, rfl, ?_⟩
            replace HS : St W13 (owns []) W34 [] := HS.join (F := []) (G := []) H_
            clear H_
            refine ql (.bool true) (by kernel_rfl) (by kernel_rfl) ?_
            refine ql (.bool true) (by kernel_rfl) (by kernel_rfl) ?_
            refine wpList_nil ?_
            refine x_then ?_
            refine wp_ret ?_
            refine x_thenR ?_
            refine ret_ (.bool true) (by kernel_rfl) ?_
            replace HS : St W9 (owns []) W34 [] := HB14.join (F := []) (G := []) HS
            replace HS : St W5 (owns []) W34 [] := HB10.join (F := []) (G := []) HS
            replace HS : St W (owns []) W34 [] := HB6.join (F := []) (G := []) HS
            exact ⟨rfl, HS.tail (F := [])⟩
          · skip
            refine ql (.bool false) (by kernel_rfl) (R_nbool (p := v < (0 : Int)) (by kernel_rfl) (hc30)) ?_
            refine ql (.bool false) (by kernel_rfl) (by kernel_rfl) ?_
            refine ql (.int .i64 v) (by kernel_rfl) (by kernel_rfl) ?_
            refine ql (.int .i64 (N : Int)) (by kernel_rfl) (by kernel_rfl) ?_
            by_cases hc35 : v ≥ (N : Int)
            · skip
              refine ql (.bool true) (by kernel_rfl) (R_bool (p := v ≥ (N : Int)) (by kernel_rfl) (hc35)) ?_
              refine ql (.bool true) (by kernel_rfl) (by kernel_rfl) ?_
              refine wpList_nil ?_
              refine x_then ?_
              refine wp_cond_true (by kernel_rfl) ?_
              refine wp_seq ?_
              refine wp_region_lit ?_
              refine ql (.pointer (some ⟨g, 0, none⟩)) (by kernel_rfl) (by kernel_rfl) ?_
              refine ql (.int .i64 v) (by kernel_rfl) (by kernel_rfl) ?_
              refine qc (f := 14) (args := #[.pointer (some ⟨g, 0, none⟩), .int .i64 v]) (by kernel_rfl) (R_call #[.pointer (some ⟨g, 0, none⟩), .int .i64 v] Try.func14 (by kernel_rfl) (by kernel_rfl) (by kernel_rfl)) ?_
              refine (reach_no g N arcs _ (hG.below (HS.kept.below owns_nil)) v (by omega)).mono ?_
              rintro e W38 ⟨rfl, H_⟩
              refine ⟨_, rfl, ?_⟩
              replace HS : St W13 (owns []) W38 [] := HS.join (F := []) (G := []) H_
              clear H_
              refine ql (.int .i64 0) (by kernel_rfl) (by kernel_rfl) ?_
              refine ql (.bool true) (by kernel_rfl) (R_beq (b := ((0 : Int) == 0)) (by kernel_rfl) (by decide)) ?_
              refine ql (.bool true) (by kernel_rfl) (by kernel_rfl) ?_
              refine qc (f := 12) (args := #[]) (by kernel_rfl) (R_call #[] Try.func12 (by kernel_rfl) (by kernel_rfl) (by kernel_rfl)) ?_
              refine (awake_calls _).mono ?_
              rintro e W39 ⟨rfl, H_⟩
              refine ⟨_, rfl, ?_⟩
              replace HS : St W13 (owns []) W39 [] := HS.join (F := []) (G := []) H_
              clear H_
              refine ql (.bool true) (by kernel_rfl) (by kernel_rfl) ?_
              refine ql (.bool true) (by kernel_rfl) (by kernel_rfl) ?_
              refine wpList_nil ?_
              refine x_then ?_
              refine wp_ret ?_
              refine x_thenR ?_
              refine ret_ (.bool true) (by kernel_rfl) ?_
              replace HS : St W9 (owns []) W39 [] := HB14.join (F := []) (G := []) HS
              replace HS : St W5 (owns []) W39 [] := HB10.join (F := []) (G := []) HS
              replace HS : St W (owns []) W39 [] := HB6.join (F := []) (G := []) HS
              exact ⟨rfl, HS.tail (F := [])⟩
            · skip
              refine ql (.bool false) (by kernel_rfl) (R_nbool (p := v ≥ (N : Int)) (by kernel_rfl) (hc35)) ?_
              refine ql (.bool false) (by kernel_rfl) (by kernel_rfl) ?_
              refine wpList_nil ?_
              refine x_then ?_
              refine wp_cond_false (by kernel_rfl) ?_
              refine wp_skip ?_
              refine x_then ?_
              refine wp_seq ?_
              refine wp_region_lit ?_
              refine ql (.pointer (some ⟨g, 0, none⟩)) (by kernel_rfl) (by kernel_rfl) ?_
              refine ql (.int .i64 v) (by kernel_rfl) (by kernel_rfl) ?_
              refine qc (f := 14) (args := #[.pointer (some ⟨g, 0, none⟩), .int .i64 v]) (by kernel_rfl) (R_call #[.pointer (some ⟨g, 0, none⟩), .int .i64 v] Try.func14 (by kernel_rfl) (by kernel_rfl) (by kernel_rfl)) ?_
              refine (reach_yes g N arcs _ (hG.below (HS.kept.below owns_nil)) v (by omega) (by omega)).mono ?_
              rintro e W42 ⟨A40, c41, rfl, H_⟩
              refine ⟨_, rfl, ?_⟩
              replace HS : St W13 (owns []) W42 [row A40 ((reach N arcs v).length) c41 (ci .i64 (reach N arcs v)) 3 1] := HS.join (F := []) (G := [row A40 ((reach N arcs v).length) c41 (ci .i64 (reach N arcs v)) 3 1]) H_
              clear H_
              refine ql (.slice A40 ((reach N arcs v).length) c41) (by kernel_rfl) (by kernel_rfl) ?_
              refine wpList_nil ?_
              refine x_then ?_
              refine wp_seq ?_
              refine wp_seq ?_
              refine wp_region_lit ?_
              refine ql (.slice A40 ((reach N arcs v).length) c41) (by kernel_rfl) (by kernel_rfl) ?_
              refine ql (.int .i64 (N : Int)) (by kernel_rfl) (by kernel_rfl) ?_
              refine ql (.slice A arcs.length c) (by kernel_rfl) (by kernel_rfl) ?_
              refine ql (.int .i64 v) (by kernel_rfl) (by kernel_rfl) ?_
              refine qc (f := 28) (args := #[.int .i64 (N : Int), .slice A arcs.length c, .int .i64 v]) (by kernel_rfl) (R_call #[.int .i64 (N : Int), .slice A arcs.length c, .int .i64 v] Try.func28 (by kernel_rfl) (by kernel_rfl) (by kernel_rfl)) ?_
              refine (ref_reach2 N _ _ arcs _ (hr.old0 HS) (by omega) v hFF (by omega) (by omega) (by omega)).mono ?_
              rintro e W46 ⟨A43, c44, bs45, rfl, H_, hbN, hons⟩
              refine ⟨_, rfl, ?_⟩
              replace HS : St W13 (owns []) W46 [row A43 bs45.length c44 (ci .i64 bs45) 3 1, row A40 ((reach N arcs v).length) c41 (ci .i64 (reach N arcs v)) 3 1] := HS.join (F := []) (G := [row A43 bs45.length c44 (ci .i64 bs45) 3 1]) H_
              clear H_
              refine qc (f := 27) (args := #[.slice A43 bs45.length c44]) (by kernel_rfl) (R_call #[.slice A43 bs45.length c44] Try.func27 (by kernel_rfl) (by kernel_rfl) (by kernel_rfl)) ?_
              refine (ref_nodes _ _ bs45 _ (Rd.row HS (i := 0) rfl) (by omega)).mono ?_
              rintro e W49 ⟨A47, c48, rfl, H_⟩
              refine ⟨_, rfl, ?_⟩
              replace HS : St W13 (owns []) W49 [row A47 ((ons bs45.length bs45).length) c48 (ci .i64 (ons bs45.length bs45)) 3 1, row A43 bs45.length c44 (ci .i64 bs45) 3 1, row A40 ((reach N arcs v).length) c41 (ci .i64 (reach N arcs v)) 3 1] := HS.join (F := []) (G := [row A47 ((ons bs45.length bs45).length) c48 (ci .i64 (ons bs45.length bs45)) 3 1]) H_
              clear H_
              refine qc (f := 23) (args := #[.slice A40 ((reach N arcs v).length) c41, .slice A47 ((ons bs45.length bs45).length) c48]) (by kernel_rfl) (R_call #[.slice A40 ((reach N arcs v).length) c41, .slice A47 ((ons bs45.length bs45).length) c48] Try.func23 (by kernel_rfl) (by kernel_rfl) (by kernel_rfl)) ?_
              refine (same_eq _ _ _ _ (reach N arcs v) (ons bs45.length bs45) _ (by first | rfl | (rw [keys_swap]; rfl) | exact (idxs_out hFF hvr).symm | exact (nexts_out hFF hvr).symm | (rw [keys_swap]; exact (idxs_out hFF hvr).symm) | exact hons.symm) (Rd.row HS (i := 2) rfl) (Rd.row HS (i := 0) rfl) (by first | (have := idxs_le false (arcs.map swap) v; rw [List.length_map] at this; rw [nexts_len]; omega) | (have := reach_le N arcs v; omega) | first | (have := idxs_le false arcs v; have := idxs_le true arcs v; omega) | (have := idxs_le false arcs v; rw [nexts_len]; omega) | (simp; done) | (have := idxs_le false (arcs.map swap) v; rw [List.length_map] at this; omega))).mono ?_
              rintro e W50 ⟨rfl, H_⟩
              refine ⟨_, rfl, ?_⟩
              replace HS : St W13 (owns []) W50 [row A47 ((ons bs45.length bs45).length) c48 (ci .i64 (ons bs45.length bs45)) 3 1, row A43 bs45.length c44 (ci .i64 bs45) 3 1, row A40 ((reach N arcs v).length) c41 (ci .i64 (reach N arcs v)) 3 1] := HS.join (F := []) (G := []) H_
              clear H_
              refine ql (.bool false) (by kernel_rfl) (by kernel_rfl) ?_
              refine ql (.bool false) (by kernel_rfl) (by kernel_rfl) ?_
              refine ql (.pointer (some ⟨g7, 0, none⟩)) (by kernel_rfl) (by kernel_rfl) ?_
              refine ql (.int .i64 v) (by kernel_rfl) (by kernel_rfl) ?_
              refine qc (f := 15) (args := #[.pointer (some ⟨g7, 0, none⟩), .int .i64 v]) (by kernel_rfl) (R_call #[.pointer (some ⟨g7, 0, none⟩), .int .i64 v] Try.func15 (by kernel_rfl) (by kernel_rfl) (by kernel_rfl)) ?_
              refine (next_yes g7 N (arcs.map swap) _ (hG8.below (HS.kept.below owns_nil)) v (by omega) (by omega)).mono ?_
              rintro e W53 ⟨A51, c52, rfl, H_⟩
              refine ⟨_, rfl, ?_⟩
              replace HS : St W13 (owns []) W53 [row A51 ((nexts (arcs.map swap) v).length) c52 (ci .i64 (nexts (arcs.map swap) v)) 3 1, row A47 ((ons bs45.length bs45).length) c48 (ci .i64 (ons bs45.length bs45)) 3 1, row A43 bs45.length c44 (ci .i64 bs45) 3 1, row A40 ((reach N arcs v).length) c41 (ci .i64 (reach N arcs v)) 3 1] := HS.join (F := []) (G := [row A51 ((nexts (arcs.map swap) v).length) c52 (ci .i64 (nexts (arcs.map swap) v)) 3 1]) H_
              clear H_
              refine ql (.slice A arcs.length c) (by kernel_rfl) (by kernel_rfl) ?_
              refine qc (f := 25) (args := #[.slice A arcs.length c]) (by kernel_rfl) (R_call #[.slice A arcs.length c] Try.func25 (by kernel_rfl) (by kernel_rfl) (by kernel_rfl)) ?_
              refine (ref_turn _ _ arcs _ (hr.old0 HS) (by first | omega | (rw [List.length_map]; omega)) ).mono ?_
              rintro e W56 ⟨A54, c55, rfl, H_⟩
              refine ⟨_, rfl, ?_⟩
              replace HS : St W13 (owns []) W56 [row A54 ((arcs.map swap).length) c55 (cf arcC (arcs.map swap)) 38 2, row A51 ((nexts (arcs.map swap) v).length) c52 (ci .i64 (nexts (arcs.map swap) v)) 3 1, row A47 ((ons bs45.length bs45).length) c48 (ci .i64 (ons bs45.length bs45)) 3 1, row A43 bs45.length c44 (ci .i64 bs45) 3 1, row A40 ((reach N arcs v).length) c41 (ci .i64 (reach N arcs v)) 3 1] := HS.join (F := []) (G := [row A54 ((arcs.map swap).length) c55 (cf arcC (arcs.map swap)) 38 2]) H_
              clear H_
              refine ql (.int .i64 v) (by kernel_rfl) (by kernel_rfl) ?_
              refine qc (f := 26) (args := #[.slice A54 ((arcs.map swap).length) c55, .int .i64 v]) (by kernel_rfl) (R_call #[.slice A54 ((arcs.map swap).length) c55, .int .i64 v] Try.func26 (by kernel_rfl) (by kernel_rfl) (by kernel_rfl)) ?_
              refine (ref_next _ _ (arcs.map swap) _ (Rd.row HS (i := 0) rfl) (by first | omega | (rw [List.length_map]; omega)) v).mono ?_
              rintro e W59 ⟨A57, c58, rfl, H_⟩
              refine ⟨_, rfl, ?_⟩
              replace HS : St W13 (owns []) W59 [row A57 ((nexts (arcs.map swap) v).length) c58 (ci .i64 (nexts (arcs.map swap) v)) 3 1, row A54 ((arcs.map swap).length) c55 (cf arcC (arcs.map swap)) 38 2, row A51 ((nexts (arcs.map swap) v).length) c52 (ci .i64 (nexts (arcs.map swap) v)) 3 1, row A47 ((ons bs45.length bs45).length) c48 (ci .i64 (ons bs45.length bs45)) 3 1, row A43 bs45.length c44 (ci .i64 bs45) 3 1, row A40 ((reach N arcs v).length) c41 (ci .i64 (reach N arcs v)) 3 1] := HS.join (F := []) (G := [row A57 ((nexts (arcs.map swap) v).length) c58 (ci .i64 (nexts (arcs.map swap) v)) 3 1]) H_
              clear H_
              refine qc (f := 23) (args := #[.slice A51 ((nexts (arcs.map swap) v).length) c52, .slice A57 ((nexts (arcs.map swap) v).length) c58]) (by kernel_rfl) (R_call #[.slice A51 ((nexts (arcs.map swap) v).length) c52, .slice A57 ((nexts (arcs.map swap) v).length) c58] Try.func23 (by kernel_rfl) (by kernel_rfl) (by kernel_rfl)) ?_
              refine (same_eq _ _ _ _ (nexts (arcs.map swap) v) (nexts (arcs.map swap) v) _ rfl (Rd.row HS (i := 2) rfl) (Rd.row HS (i := 0) rfl) (by first | (have := idxs_le false (arcs.map swap) v; rw [List.length_map] at this; rw [nexts_len]; omega) | (have := reach_le N arcs v; omega) | first | (have := idxs_le false arcs v; have := idxs_le true arcs v; omega) | (have := idxs_le false arcs v; rw [nexts_len]; omega) | (simp; done) | (have := idxs_le false (arcs.map swap) v; rw [List.length_map] at this; omega))).mono ?_
              rintro e W60 ⟨rfl, H_⟩
              refine ⟨_, rfl, ?_⟩
              replace HS : St W13 (owns []) W60 [row A57 ((nexts (arcs.map swap) v).length) c58 (ci .i64 (nexts (arcs.map swap) v)) 3 1, row A54 ((arcs.map swap).length) c55 (cf arcC (arcs.map swap)) 38 2, row A51 ((nexts (arcs.map swap) v).length) c52 (ci .i64 (nexts (arcs.map swap) v)) 3 1, row A47 ((ons bs45.length bs45).length) c48 (ci .i64 (ons bs45.length bs45)) 3 1, row A43 bs45.length c44 (ci .i64 bs45) 3 1, row A40 ((reach N arcs v).length) c41 (ci .i64 (reach N arcs v)) 3 1] := HS.join (F := []) (G := []) H_
              clear H_
              refine ql (.bool false) (by kernel_rfl) (by kernel_rfl) ?_
              refine ql (.bool false) (by kernel_rfl) (by kernel_rfl) ?_
              refine ql (.bool false) (by kernel_rfl) (by kernel_rfl) ?_
              refine ql (.pointer (some ⟨g11, 0, none⟩)) (by kernel_rfl) (by kernel_rfl) ?_
              refine ql (.int .i64 v) (by kernel_rfl) (by kernel_rfl) ?_
              refine qc (f := 19) (args := #[.pointer (some ⟨g11, 0, none⟩), .int .i64 v]) (by kernel_rfl) (R_call #[.pointer (some ⟨g11, 0, none⟩), .int .i64 v] Try.func19 (by kernel_rfl) (by kernel_rfl) (by kernel_rfl)) ?_
              refine (out_yes g11 N arcs _ (hG12.below (HS.kept.below owns_nil)) v (by omega) (by omega)).mono ?_
              rintro e W63 ⟨A61, c62, rfl, H_⟩
              refine ⟨_, rfl, ?_⟩
              replace HS : St W13 (owns []) W63 [row A61 ((idxs (keys false arcs) v).length) c62 (ci .i64 (idxs (keys false arcs) v)) 3 1, row A57 ((nexts (arcs.map swap) v).length) c58 (ci .i64 (nexts (arcs.map swap) v)) 3 1, row A54 ((arcs.map swap).length) c55 (cf arcC (arcs.map swap)) 38 2, row A51 ((nexts (arcs.map swap) v).length) c52 (ci .i64 (nexts (arcs.map swap) v)) 3 1, row A47 ((ons bs45.length bs45).length) c48 (ci .i64 (ons bs45.length bs45)) 3 1, row A43 bs45.length c44 (ci .i64 bs45) 3 1, row A40 ((reach N arcs v).length) c41 (ci .i64 (reach N arcs v)) 3 1] := HS.join (F := []) (G := [row A61 ((idxs (keys false arcs) v).length) c62 (ci .i64 (idxs (keys false arcs) v)) 3 1]) H_
              clear H_
              refine ql (.pointer (some ⟨g, 0, none⟩)) (by kernel_rfl) (by kernel_rfl) ?_
              refine ql (.int .i64 v) (by kernel_rfl) (by kernel_rfl) ?_
              refine qc (f := 19) (args := #[.pointer (some ⟨g, 0, none⟩), .int .i64 v]) (by kernel_rfl) (R_call #[.pointer (some ⟨g, 0, none⟩), .int .i64 v] Try.func19 (by kernel_rfl) (by kernel_rfl) (by kernel_rfl)) ?_
              refine (out_yes g N arcs _ (hG.below (HS.kept.below owns_nil)) v (by omega) (by omega)).mono ?_
              rintro e W66 ⟨A64, c65, rfl, H_⟩
              refine ⟨_, rfl, ?_⟩
              replace HS : St W13 (owns []) W66 [row A64 ((idxs (keys false arcs) v).length) c65 (ci .i64 (idxs (keys false arcs) v)) 3 1, row A61 ((idxs (keys false arcs) v).length) c62 (ci .i64 (idxs (keys false arcs) v)) 3 1, row A57 ((nexts (arcs.map swap) v).length) c58 (ci .i64 (nexts (arcs.map swap) v)) 3 1, row A54 ((arcs.map swap).length) c55 (cf arcC (arcs.map swap)) 38 2, row A51 ((nexts (arcs.map swap) v).length) c52 (ci .i64 (nexts (arcs.map swap) v)) 3 1, row A47 ((ons bs45.length bs45).length) c48 (ci .i64 (ons bs45.length bs45)) 3 1, row A43 bs45.length c44 (ci .i64 bs45) 3 1, row A40 ((reach N arcs v).length) c41 (ci .i64 (reach N arcs v)) 3 1] := HS.join (F := []) (G := [row A64 ((idxs (keys false arcs) v).length) c65 (ci .i64 (idxs (keys false arcs) v)) 3 1]) H_
              clear H_
              refine qc (f := 23) (args := #[.slice A61 ((idxs (keys false arcs) v).length) c62, .slice A64 ((idxs (keys false arcs) v).length) c65]) (by kernel_rfl) (R_call #[.slice A61 ((idxs (keys false arcs) v).length) c62, .slice A64 ((idxs (keys false arcs) v).length) c65] Try.func23 (by kernel_rfl) (by kernel_rfl) (by kernel_rfl)) ?_
              refine (same_eq _ _ _ _ (idxs (keys false arcs) v) (idxs (keys false arcs) v) _ rfl (Rd.row HS (i := 1) rfl) (Rd.row HS (i := 0) rfl) (by first | (have := idxs_le false (arcs.map swap) v; rw [List.length_map] at this; rw [nexts_len]; omega) | (have := reach_le N arcs v; omega) | first | (have := idxs_le false arcs v; have := idxs_le true arcs v; omega) | (have := idxs_le false arcs v; rw [nexts_len]; omega) | (simp; done) | (have := idxs_le false (arcs.map swap) v; rw [List.length_map] at this; omega))).mono ?_
              rintro e W67 ⟨rfl, H_⟩
              refine ⟨_, rfl, ?_⟩
              replace HS : St W13 (owns []) W67 [row A64 ((idxs (keys false arcs) v).length) c65 (ci .i64 (idxs (keys false arcs) v)) 3 1, row A61 ((idxs (keys false arcs) v).length) c62 (ci .i64 (idxs (keys false arcs) v)) 3 1, row A57 ((nexts (arcs.map swap) v).length) c58 (ci .i64 (nexts (arcs.map swap) v)) 3 1, row A54 ((arcs.map swap).length) c55 (cf arcC (arcs.map swap)) 38 2, row A51 ((nexts (arcs.map swap) v).length) c52 (ci .i64 (nexts (arcs.map swap) v)) 3 1, row A47 ((ons bs45.length bs45).length) c48 (ci .i64 (ons bs45.length bs45)) 3 1, row A43 bs45.length c44 (ci .i64 bs45) 3 1, row A40 ((reach N arcs v).length) c41 (ci .i64 (reach N arcs v)) 3 1] := HS.join (F := []) (G := []) H_
              clear H_
              refine ql (.bool false) (by kernel_rfl) (by kernel_rfl) ?_
              refine ql (.bool false) (by kernel_rfl) (by kernel_rfl) ?_
              refine wpList_nil ?_
              refine x_then ?_
              refine wp_cond_false (by kernel_rfl) ?_
              refine wp_skip ?_
              refine x_then ?_
              refine wp_seq ?_
              refine wp_seq ?_
              have HB68 := HS
              replace hr := hr.below (HB68.kept.below owns_nil)
              replace hG := hG.below (HB68.kept.below owns_nil)
              replace hG8 := hG8.below (HB68.kept.below owns_nil)
              replace hG12 := hG12.below (HB68.kept.below owns_nil)
              have hr69 := Rd.row HB68 (i := 0) rfl
              have hr70 := Rd.row HB68 (i := 1) rfl
              have hr71 := Rd.row HB68 (i := 2) rfl
              have hr72 := Rd.row HB68 (i := 3) rfl
              have hr73 := Rd.row HB68 (i := 4) rfl
              have hr74 := Rd.row HB68 (i := 5) rfl
              have hr75 := Rd.row HB68 (i := 6) rfl
              have hr76 := Rd.row HB68 (i := 7) rfl
              clear HS
              have HS : St W67 (owns []) W67 [] := St.start _ _
              refine wp_region_lit ?_
              refine ql (.int .i64 0) (by kernel_rfl) (by kernel_rfl) ?_
              refine wpList_nil ?_
              refine x_then ?_
              refine wp_block ?_
              have hrl := reach_le N arcs v
              refine wp_loop_ghost (fun kq a' w' => ∃ (j6 : Value) (j18 : Value) (j19 : Value) (j20 : Value) (j168 : Value) (j169 : Value) (j170 : Value) (j171 : Value) (j172 : Value) (j173 : Value) (j174 : Value) (j175 : Value) (j176 : Value) (j177 : Value) (j178 : Value) (j179 : Value) (j180 : Value) (j181 : Value) (j182 : Value) (j183 : Value) (j184 : Value) (j185 : Value) (j186 : Value) (j187 : Value) (j188 : Value) (j189 : Value) (j190 : Value) (j191 : Value) (j192 : Value) (j193 : Value) (j194 : Value) (j195 : Value) (j196 : Value) (p : Int) , a' = Fr ((.int .i64 (N : Int)) :: (.slice A arcs.length c) :: (.int .i64 v) :: undef :: undef :: undef :: j6 :: (.pointer (some ⟨g, 0, none⟩)) :: (.int .i64 0) :: (.pointer (some ⟨g7, 0, none⟩)) :: (.pointer (some ⟨g11, 0, none⟩)) :: (.int .i64 i) :: j12 :: j13 :: j14 :: j15 :: (.slice A40 ((reach N arcs v).length) c41) :: (.int .i64 p) :: j18 :: j19 :: j20 :: (.slice A arcs.length c) :: (.int .i64 (arcs.length : Int)) :: (.bool false) :: (.bool false) :: (.int .i64 (N : Int)) :: (.bool false) :: (.bool false) :: undef :: (.tuple #[.pointer (some ⟨g, 0, none⟩), .int .i64 0]) :: (.int .i64 (N : Int)) :: (.slice A arcs.length c) :: (.tuple #[.pointer (some ⟨g, 0, none⟩), .int .i64 0]) :: (.pointer (some ⟨g, 0, none⟩)) :: (.int .i64 0) :: (.int .i64 0) :: (.bool false) :: undef :: undef :: undef :: undef :: undef :: (.pointer (some ⟨g, 0, none⟩)) :: (.pointer (some ⟨g7, 0, none⟩)) :: (.pointer (some ⟨g7, 0, none⟩)) :: (.pointer (some ⟨g11, 0, none⟩)) :: (.pointer (some ⟨g7, 0, none⟩)) :: (.bool false) :: (.bool false) :: (.pointer (some ⟨g11, 0, none⟩)) :: (.bool false) :: (.bool false) :: (.bool false) :: (.pointer (some ⟨g7, 0, none⟩)) :: (.int .i64 (N : Int)) :: (.int .i64 (N : Int)) :: (.bool false) :: (.bool false) :: (.bool false) :: (.pointer (some ⟨g7, 0, none⟩)) :: (.int .i64 ((arcs.map swap).length : Int)) :: (.slice A arcs.length c) :: (.int .i64 (arcs.length : Int)) :: (.bool false) :: (.bool false) :: (.int .i64 i) :: (.slice A arcs.length c) :: (.int .i64 (arcs.length : Int)) :: (.bool false) :: j69 :: j70 :: j71 :: j72 :: j73 :: j74 :: j75 :: j76 :: j77 :: j78 :: j79 :: j80 :: j81 :: j82 :: j83 :: j84 :: j85 :: j86 :: j87 :: j88 :: j89 :: j90 :: j91 :: j92 :: j93 :: j94 :: j95 :: j96 :: j97 :: j98 :: j99 :: j100 :: j101 :: j102 :: j103 :: j104 :: j105 :: j106 :: j107 :: j108 :: j109 :: j110 :: j111 :: j112 :: j113 :: j114 :: j115 :: j116 :: j117 :: j118 :: j119 :: j120 :: (.int .i64 v) :: (.bool false) :: (.bool false) :: (.int .i64 v) :: (.int .i64 (N : Int)) :: (.bool false) :: (.bool false) :: undef :: undef :: undef :: undef :: undef :: undef :: undef :: undef :: (.pointer (some ⟨g, 0, none⟩)) :: (.int .i64 v) :: (.slice A40 ((reach N arcs v).length) c41) :: (.slice A40 ((reach N arcs v).length) c41) :: (.int .i64 (N : Int)) :: (.slice A arcs.length c) :: (.int .i64 v) :: (.slice A43 bs45.length c44) :: (.slice A47 ((ons bs45.length bs45).length) c48) :: (.bool true) :: (.bool false) :: (.bool false) :: (.pointer (some ⟨g7, 0, none⟩)) :: (.int .i64 v) :: (.slice A51 ((nexts (arcs.map swap) v).length) c52) :: (.slice A arcs.length c) :: (.slice A54 ((arcs.map swap).length) c55) :: (.int .i64 v) :: (.slice A57 ((nexts (arcs.map swap) v).length) c58) :: (.bool true) :: (.bool false) :: (.bool false) :: (.bool false) :: (.pointer (some ⟨g11, 0, none⟩)) :: (.int .i64 v) :: (.slice A61 ((idxs (keys false arcs) v).length) c62) :: (.pointer (some ⟨g, 0, none⟩)) :: (.int .i64 v) :: (.slice A64 ((idxs (keys false arcs) v).length) c65) :: (.bool true) :: (.bool false) :: (.bool false) :: j168 :: j169 :: j170 :: j171 :: j172 :: j173 :: j174 :: j175 :: j176 :: j177 :: j178 :: j179 :: j180 :: j181 :: j182 :: j183 :: j184 :: j185 :: j186 :: j187 :: j188 :: j189 :: j190 :: j191 :: j192 :: j193 :: j194 :: j195 :: j196 :: undef :: []) ∧ kq = ((reach N arcs v).length - (p).toNat) ∧ (0 ≤ p) ∧ (p ≤ (reach N arcs v).length) ∧ St W67 (owns []) w' []) ((reach N arcs v).length - ((0 : Int)).toNat) ⟨(j6 : Value), (undef : Value), (undef : Value), (undef : Value), (undef : Value), (undef : Value), (undef : Value), (undef : Value), (undef : Value), (undef : Value), (undef : Value), (undef : Value), (undef : Value), (undef : Value), (undef : Value), (undef : Value), (undef : Value), (undef : Value), (undef : Value), (undef : Value), (undef : Value), (undef : Value), (undef : Value), (undef : Value), (undef : Value), (undef : Value), (undef : Value), (undef : Value), (undef : Value), (undef : Value), (undef : Value), (undef : Value), (undef : Value), (0 : Int), congrArg Fr (by kernel_rfl), rfl, by omega, by omega, HS⟩ ?_
              clear HS
              intro kq77 a' W78 hrel
              obtain ⟨j6, j18, j19, j20, j168, j169, j170, j171, j172, j173, j174, j175, j176, j177, j178, j179, j180, j181, j182, j183, j184, j185, j186, j187, j188, j189, j190, j191, j192, j193, j194, j195, j196, p, rfl, hk, p0, p1, HS⟩ := hrel
              refine wp_seq ?_
              refine wp_seq ?_
              refine wp_region_lit ?_
              refine ql (.int .i64 p) (by kernel_rfl) (by kernel_rfl) ?_
              refine ql (.slice A40 ((reach N arcs v).length) c41) (by kernel_rfl) (by kernel_rfl) ?_
              refine ql (.int .i64 ((reach N arcs v).length : Int)) (by kernel_rfl) (by kernel_rfl) ?_
              by_cases hc79 : p < ((reach N arcs v).length : Int)
              · skip
                refine ql (.bool true) (by kernel_rfl) (R_bool (p := p < ((reach N arcs v).length : Int)) (by kernel_rfl) (hc79)) ?_
                refine wpList_nil ?_
                refine x_then ?_
                refine wp_cond_true (by kernel_rfl) ?_
                refine wp_skip ?_
                refine x_then ?_
                refine wp_seq ?_
                refine wp_block ?_
                refine wp_seq ?_
                have hx := rdI_in (xs := reach N arcs v) p0 (by omega)
                have hxr := mem_reach.1 hx
                have hbm := back_mem (v := v) (by omega) (by omega) hx
                have hbl := reach_le N (arcs.map swap) (rdI (reach N arcs v) p)
                refine wp_region_lit ?_
                refine ql (.pointer (some ⟨g7, 0, none⟩)) (by kernel_rfl) (by kernel_rfl) ?_
                refine ql (.slice A40 ((reach N arcs v).length) c41) (by kernel_rfl) (by kernel_rfl) ?_
                refine ql (.int .i64 p) (by kernel_rfl) (by kernel_rfl) ?_
                obtain ⟨ad80, rfl⟩ := Rd.isSome_ hr76 (by rw [ci_len]; omega)
                refine ql (.pointer (some (ad80.add p.toNat))) (by kernel_rfl) (R_indexA1 (k := .i64) (p := ad80) (n := ((reach N arcs v).length)) (c := c41) (i := p) (by kernel_rfl) (by kernel_rfl) Try.underlying28 (by kernel_rfl) (by omega) (by omega)) ?_
                refine ql (.int .i64 (rdI (reach N arcs v) p)) (by kernel_rfl) (R_load (p := ad80.add p.toNat) (by kernel_rfl) (by kernel_rfl) (by kernel_rfl) (HS.old0 (hr76.at_ (ci_rd (by omega) (by omega))))) ?_
                refine qc (f := 14) (args := #[.pointer (some ⟨g7, 0, none⟩), .int .i64 (rdI (reach N arcs v) p)]) (by kernel_rfl) (R_call #[.pointer (some ⟨g7, 0, none⟩), .int .i64 (rdI (reach N arcs v) p)] Try.func14 (by kernel_rfl) (by kernel_rfl) (by kernel_rfl)) ?_
                refine (reach_yes g7 N (arcs.map swap) _ (hG8.below (HS.kept.below owns_nil)) (rdI (reach N arcs v) p) (by omega) (by omega)).mono ?_
                rintro e W83 ⟨A81, c82, rfl, H_⟩
                refine ⟨_, rfl, ?_⟩
                replace HS : St W67 (owns []) W83 [row A81 ((reach N (arcs.map swap) (rdI (reach N arcs v) p)).length) c82 (ci .i64 (reach N (arcs.map swap) (rdI (reach N arcs v) p))) 3 1] := HS.join (F := []) (G := [row A81 ((reach N (arcs.map swap) (rdI (reach N arcs v) p)).length) c82 (ci .i64 (reach N (arcs.map swap) (rdI (reach N arcs v) p))) 3 1]) H_
                clear H_
                refine ql (.slice A81 ((reach N (arcs.map swap) (rdI (reach N arcs v) p)).length) c82) (by kernel_rfl) (by kernel_rfl) ?_
                refine wpList_nil ?_
                refine x_then ?_
                refine wp_seq ?_
                refine wp_region_lit ?_
                refine ql (.bool false) (by kernel_rfl) (by kernel_rfl) ?_
                refine wpList_nil ?_
                refine x_then ?_
                refine wp_seq ?_
                refine wp_seq ?_
                refine wp_region_lit ?_
                refine ql (.int .i64 0) (by kernel_rfl) (by kernel_rfl) ?_
                refine wpList_nil ?_
                refine x_then ?_
                refine wp_block ?_
                refine wp_loop_ghost (fun kq a' w' => ∃ (j180 : Value) (j181 : Value) (j182 : Value) (j183 : Value) (j184 : Value) (j185 : Value) (j186 : Value) (j187 : Value) (j188 : Value) (j189 : Value) (j190 : Value) (j191 : Value) (j192 : Value) (j193 : Value) (j194 : Value) (k : Int) (m : Bool) , a' = Fr ((.int .i64 (N : Int)) :: (.slice A arcs.length c) :: (.int .i64 v) :: undef :: undef :: undef :: j6 :: (.pointer (some ⟨g, 0, none⟩)) :: (.int .i64 0) :: (.pointer (some ⟨g7, 0, none⟩)) :: (.pointer (some ⟨g11, 0, none⟩)) :: (.int .i64 i) :: j12 :: j13 :: j14 :: j15 :: (.slice (some ad80) ((reach N arcs v).length) c41) :: (.int .i64 p) :: (.slice A81 ((reach N (arcs.map swap) (rdI (reach N arcs v) p)).length) c82) :: (.bool m) :: (.int .i64 k) :: (.slice A arcs.length c) :: (.int .i64 (arcs.length : Int)) :: (.bool false) :: (.bool false) :: (.int .i64 (N : Int)) :: (.bool false) :: (.bool false) :: undef :: (.tuple #[.pointer (some ⟨g, 0, none⟩), .int .i64 0]) :: (.int .i64 (N : Int)) :: (.slice A arcs.length c) :: (.tuple #[.pointer (some ⟨g, 0, none⟩), .int .i64 0]) :: (.pointer (some ⟨g, 0, none⟩)) :: (.int .i64 0) :: (.int .i64 0) :: (.bool false) :: undef :: undef :: undef :: undef :: undef :: (.pointer (some ⟨g, 0, none⟩)) :: (.pointer (some ⟨g7, 0, none⟩)) :: (.pointer (some ⟨g7, 0, none⟩)) :: (.pointer (some ⟨g11, 0, none⟩)) :: (.pointer (some ⟨g7, 0, none⟩)) :: (.bool false) :: (.bool false) :: (.pointer (some ⟨g11, 0, none⟩)) :: (.bool false) :: (.bool false) :: (.bool false) :: (.pointer (some ⟨g7, 0, none⟩)) :: (.int .i64 (N : Int)) :: (.int .i64 (N : Int)) :: (.bool false) :: (.bool false) :: (.bool false) :: (.pointer (some ⟨g7, 0, none⟩)) :: (.int .i64 ((arcs.map swap).length : Int)) :: (.slice A arcs.length c) :: (.int .i64 (arcs.length : Int)) :: (.bool false) :: (.bool false) :: (.int .i64 i) :: (.slice A arcs.length c) :: (.int .i64 (arcs.length : Int)) :: (.bool false) :: j69 :: j70 :: j71 :: j72 :: j73 :: j74 :: j75 :: j76 :: j77 :: j78 :: j79 :: j80 :: j81 :: j82 :: j83 :: j84 :: j85 :: j86 :: j87 :: j88 :: j89 :: j90 :: j91 :: j92 :: j93 :: j94 :: j95 :: j96 :: j97 :: j98 :: j99 :: j100 :: j101 :: j102 :: j103 :: j104 :: j105 :: j106 :: j107 :: j108 :: j109 :: j110 :: j111 :: j112 :: j113 :: j114 :: j115 :: j116 :: j117 :: j118 :: j119 :: j120 :: (.int .i64 v) :: (.bool false) :: (.bool false) :: (.int .i64 v) :: (.int .i64 (N : Int)) :: (.bool false) :: (.bool false) :: undef :: undef :: undef :: undef :: undef :: undef :: undef :: undef :: (.pointer (some ⟨g, 0, none⟩)) :: (.int .i64 v) :: (.slice (some ad80) ((reach N arcs v).length) c41) :: (.slice (some ad80) ((reach N arcs v).length) c41) :: (.int .i64 (N : Int)) :: (.slice A arcs.length c) :: (.int .i64 v) :: (.slice A43 bs45.length c44) :: (.slice A47 ((ons bs45.length bs45).length) c48) :: (.bool true) :: (.bool false) :: (.bool false) :: (.pointer (some ⟨g7, 0, none⟩)) :: (.int .i64 v) :: (.slice A51 ((nexts (arcs.map swap) v).length) c52) :: (.slice A arcs.length c) :: (.slice A54 ((arcs.map swap).length) c55) :: (.int .i64 v) :: (.slice A57 ((nexts (arcs.map swap) v).length) c58) :: (.bool true) :: (.bool false) :: (.bool false) :: (.bool false) :: (.pointer (some ⟨g11, 0, none⟩)) :: (.int .i64 v) :: (.slice A61 ((idxs (keys false arcs) v).length) c62) :: (.pointer (some ⟨g, 0, none⟩)) :: (.int .i64 v) :: (.slice A64 ((idxs (keys false arcs) v).length) c65) :: (.bool true) :: (.bool false) :: (.bool false) :: (.int .i64 p) :: (.slice (some ad80) ((reach N arcs v).length) c41) :: (.int .i64 ((reach N arcs v).length : Int)) :: (.bool true) :: j172 :: j173 :: (.pointer (some ⟨g7, 0, none⟩)) :: (.slice (some ad80) ((reach N arcs v).length) c41) :: (.int .i64 p) :: (.pointer (some (ad80.add p.toNat))) :: (.int .i64 (rdI (reach N arcs v) p)) :: (.slice A81 ((reach N (arcs.map swap) (rdI (reach N arcs v) p)).length) c82) :: j180 :: j181 :: j182 :: j183 :: j184 :: j185 :: j186 :: j187 :: j188 :: j189 :: j190 :: j191 :: j192 :: j193 :: j194 :: j195 :: j196 :: undef :: []) ∧ kq = ((reach N (arcs.map swap) (rdI (reach N arcs v) p)).length - (k).toNat) ∧ (0 ≤ k) ∧ (k ≤ (reach N (arcs.map swap) (rdI (reach N arcs v) p)).length) ∧ (v ∈ (reach N (arcs.map swap) (rdI (reach N arcs v) p)).take (k).toNat → m = true) ∧ St W67 (owns []) w' [row A81 ((reach N (arcs.map swap) (rdI (reach N arcs v) p)).length) c82 (ci .i64 (reach N (arcs.map swap) (rdI (reach N arcs v) p))) 3 1]) ((reach N (arcs.map swap) (rdI (reach N arcs v) p)).length - ((0 : Int)).toNat) ⟨(j180 : Value), (j181 : Value), (j182 : Value), (j183 : Value), (j184 : Value), (j185 : Value), (j186 : Value), (j187 : Value), (j188 : Value), (j189 : Value), (j190 : Value), (j191 : Value), (j192 : Value), (j193 : Value), (j194 : Value), (0 : Int), false, congrArg Fr (by kernel_rfl), rfl, by omega, by omega, by intro hz; simp at hz, HS⟩ ?_
                clear HS
                intro kq84 a' W85 hrel
                obtain ⟨j180, j181, j182, j183, j184, j185, j186, j187, j188, j189, j190, j191, j192, j193, j194, k, m, rfl, hk, k0, k1, hm, HS⟩ := hrel
                refine wp_seq ?_
                refine wp_seq ?_
                refine wp_region_lit ?_
                refine ql (.int .i64 k) (by kernel_rfl) (by kernel_rfl) ?_
                refine ql (.slice A81 ((reach N (arcs.map swap) (rdI (reach N arcs v) p)).length) c82) (by kernel_rfl) (by kernel_rfl) ?_
                refine ql (.int .i64 ((reach N (arcs.map swap) (rdI (reach N arcs v) p)).length : Int)) (by kernel_rfl) (by kernel_rfl) ?_
                by_cases hc86 : k < ((reach N (arcs.map swap) (rdI (reach N arcs v) p)).length : Int)
                · skip
                  refine ql (.bool true) (by kernel_rfl) (R_bool (p := k < ((reach N (arcs.map swap) (rdI (reach N arcs v) p)).length : Int)) (by kernel_rfl) (hc86)) ?_
                  refine wpList_nil ?_
                  refine x_then ?_
                  refine wp_cond_true (by kernel_rfl) ?_
                  refine wp_skip ?_
                  refine x_then ?_
                  refine wp_seq ?_
                  refine wp_block ?_
                  refine wp_region_lit ?_
                  refine ql (.bool m) (by kernel_rfl) (by kernel_rfl) ?_
                  refine ql (.bool m) (by kernel_rfl) (by kernel_rfl) ?_
                  by_cases hb87 : m = true
                  · skip
                    subst hb87
                    refine qln (by kernel_rfl) ?_
                    refine qln (by kernel_rfl) ?_
                    refine qln (by kernel_rfl) ?_
                    refine qln (by kernel_rfl) ?_
                    refine qln (by kernel_rfl) ?_
                    refine qln (by kernel_rfl) ?_
                    refine ql (.bool true) (by kernel_rfl) (by kernel_rfl) ?_
                    refine ql (.bool true) (by kernel_rfl) (by kernel_rfl) ?_
                    refine wpList_nil ?_
                    refine x_inb ?_
                    refine x_then ?_
                    refine wp_region_lit ?_
                    refine ql (.int .i64 k) (by kernel_rfl) (by kernel_rfl) ?_
                    refine ql (.int .i64 (k + 1)) (by kernel_rfl) (R_int (by kernel_rfl) (w64 (by omega))) ?_
                    refine ql (.int .i64 (k + 1)) (by kernel_rfl) (by kernel_rfl) ?_
                    refine wpList_nil ?_
                    have htk := take_rd (xs := reach N (arcs.map swap) (rdI (reach N arcs v) p)) k0 (by omega)
                    refine x_then ?_
                    exact ⟨(reach N (arcs.map swap) (rdI (reach N arcs v) p)).length - (k + 1).toNat, by omega, (.int .i64 k : Value), (.slice A81 ((reach N (arcs.map swap) (rdI (reach N arcs v) p)).length) c82 : Value), (.int .i64 ((reach N (arcs.map swap) (rdI (reach N arcs v) p)).length : Int) : Value), (.bool true : Value), (.int .i64 k : Value), (.int .i64 (k + 1) : Value), (.bool true : Value), (.bool true : Value), (undef : Value), (undef : Value), (undef : Value), (undef : Value), (undef : Value), (undef : Value), (.bool true : Value), k + 1, true, congrArg Fr (by kernel_rfl), rfl, by omega, by omega, fun _ => rfl, HS⟩
                  · skip
                    replace hb87 := Bool.eq_false_iff.2 hb87
                    subst hb87
                    refine ql (.slice A81 ((reach N (arcs.map swap) (rdI (reach N arcs v) p)).length) c82) (by kernel_rfl) (by kernel_rfl) ?_
                    refine ql (.int .i64 k) (by kernel_rfl) (by kernel_rfl) ?_
                    obtain ⟨g88, rfl⟩ := St.rsome HS (i := 0) rfl (by omega)
                    refine ql (.pointer (some ⟨g88, k.toNat, none⟩)) (by kernel_rfl) (R_index1 (k := .i64) (g := g88) (n := ((reach N (arcs.map swap) (rdI (reach N arcs v) p)).length)) (c := c82) (i := k) (by kernel_rfl) (by kernel_rfl) Try.underlying28 (by kernel_rfl) (by omega) (by omega)) ?_
                    refine ql (.int .i64 (rdI (reach N (arcs.map swap) (rdI (reach N arcs v) p)) k)) (by kernel_rfl) (R_load (p := ⟨g88, k.toNat, none⟩) (by kernel_rfl) (by kernel_rfl) (by kernel_rfl) (HS.rcell (i := 0) rfl (ci_rd (by omega) (by omega)))) ?_
                    refine ql (.int .i64 v) (by kernel_rfl) (by kernel_rfl) ?_
                    by_cases hc89 : (rdI (reach N (arcs.map swap) (rdI (reach N arcs v) p)) k) = v
                    · skip
                      refine ql (.bool true) (by kernel_rfl) (R_beq (b := (rdI (reach N (arcs.map swap) (rdI (reach N arcs v) p)) k == v)) (by kernel_rfl) (beq_t (hc89))) ?_
                      refine ql (.bool true) (by kernel_rfl) (by kernel_rfl) ?_
                      refine ql (.bool true) (by kernel_rfl) (by kernel_rfl) ?_
                      refine wpList_nil ?_
                      refine x_inb ?_
                      refine x_then ?_
                      refine wp_region_lit ?_
                      refine ql (.int .i64 k) (by kernel_rfl) (by kernel_rfl) ?_
                      refine ql (.int .i64 (k + 1)) (by kernel_rfl) (R_int (by kernel_rfl) (w64 (by omega))) ?_
                      refine ql (.int .i64 (k + 1)) (by kernel_rfl) (by kernel_rfl) ?_
                      refine wpList_nil ?_
                      have htk := take_rd (xs := reach N (arcs.map swap) (rdI (reach N arcs v) p)) k0 (by omega)
                      refine x_then ?_
                      exact ⟨(reach N (arcs.map swap) (rdI (reach N arcs v) p)).length - (k + 1).toNat, by omega, (.int .i64 k : Value), (.slice (some ⟨g88, 0, none⟩) ((reach N (arcs.map swap) (rdI (reach N arcs v) p)).length) c82 : Value), (.int .i64 ((reach N (arcs.map swap) (rdI (reach N arcs v) p)).length : Int) : Value), (.bool true : Value), (.int .i64 k : Value), (.int .i64 (k + 1) : Value), (.bool false : Value), (.bool false : Value), (.slice (some ⟨g88, 0, none⟩) ((reach N (arcs.map swap) (rdI (reach N arcs v) p)).length) c82 : Value), (.int .i64 k : Value), (.pointer (some ⟨g88, k.toNat, none⟩) : Value), (.int .i64 (rdI (reach N (arcs.map swap) (rdI (reach N arcs v) p)) k) : Value), (.int .i64 v : Value), (.bool true : Value), (.bool true : Value), k + 1, true, congrArg Fr (by kernel_rfl), rfl, by omega, by omega, fun _ => rfl, HS⟩
                    · skip
                      refine ql (.bool false) (by kernel_rfl) (R_beq (b := (rdI (reach N (arcs.map swap) (rdI (reach N arcs v) p)) k == v)) (by kernel_rfl) (beq_f (hc89))) ?_
                      refine ql (.bool false) (by kernel_rfl) (by kernel_rfl) ?_
                      refine ql (.bool false) (by kernel_rfl) (by kernel_rfl) ?_
                      refine wpList_nil ?_
                      refine x_inb ?_
                      refine x_then ?_
                      refine wp_region_lit ?_
                      refine ql (.int .i64 k) (by kernel_rfl) (by kernel_rfl) ?_
                      refine ql (.int .i64 (k + 1)) (by kernel_rfl) (R_int (by kernel_rfl) (w64 (by omega))) ?_
                      refine ql (.int .i64 (k + 1)) (by kernel_rfl) (by kernel_rfl) ?_
                      refine wpList_nil ?_
                      have htk := take_rd (xs := reach N (arcs.map swap) (rdI (reach N arcs v) p)) k0 (by omega)
                      refine x_then ?_
                      exact ⟨(reach N (arcs.map swap) (rdI (reach N arcs v) p)).length - (k + 1).toNat, by omega, (.int .i64 k : Value), (.slice (some ⟨g88, 0, none⟩) ((reach N (arcs.map swap) (rdI (reach N arcs v) p)).length) c82 : Value), (.int .i64 ((reach N (arcs.map swap) (rdI (reach N arcs v) p)).length : Int) : Value), (.bool true : Value), (.int .i64 k : Value), (.int .i64 (k + 1) : Value), (.bool false : Value), (.bool false : Value), (.slice (some ⟨g88, 0, none⟩) ((reach N (arcs.map swap) (rdI (reach N arcs v) p)).length) c82 : Value), (.int .i64 k : Value), (.pointer (some ⟨g88, k.toNat, none⟩) : Value), (.int .i64 (rdI (reach N (arcs.map swap) (rdI (reach N arcs v) p)) k) : Value), (.int .i64 v : Value), (.bool false : Value), (.bool false : Value), k + 1, false, congrArg Fr (by kernel_rfl), rfl, by omega, by omega, by intro hz; rw [htk] at hz; rcases List.mem_append.1 hz with h9 | h9; exact hm h9; rw [List.mem_singleton] at h9; exact absurd h9.symm (by assumption), HS⟩
                · skip
                  refine ql (.bool false) (by kernel_rfl) (R_nbool (p := k < ((reach N (arcs.map swap) (rdI (reach N arcs v) p)).length : Int)) (by kernel_rfl) (hc86)) ?_
                  refine wpList_nil ?_
                  refine x_then ?_
                  refine wp_cond_false (by kernel_rfl) ?_
                  refine wp_exit ?_
                  refine x_thenE ?_
                  refine x_thenE ?_
                  refine x_hit ?_
                  refine x_then ?_
                  refine wp_seq ?_
                  refine wp_region_lit ?_
                  refine ql (.bool m) (by kernel_rfl) (by kernel_rfl) ?_
                  by_cases hb90 : m = true
                  · skip
                    subst hb90
                    refine ql (.bool false) (by kernel_rfl) (by kernel_rfl) ?_
                    refine wpList_nil ?_
                    refine x_then ?_
                    refine wp_cond_false (by kernel_rfl) ?_
                    refine wp_skip ?_
                    refine x_inb ?_
                    refine x_then ?_
                    refine wp_region_lit ?_
                    refine ql (.int .i64 p) (by kernel_rfl) (by kernel_rfl) ?_
                    refine ql (.int .i64 (p + 1)) (by kernel_rfl) (R_int (by kernel_rfl) (w64 (by omega))) ?_
                    refine ql (.int .i64 (p + 1)) (by kernel_rfl) (by kernel_rfl) ?_
                    refine wpList_nil ?_
                    replace HS := HS.drop1
                    refine x_then ?_
                    exact ⟨(reach N arcs v).length - (p + 1).toNat, by omega, (j6 : Value), (.slice A81 ((reach N (arcs.map swap) (rdI (reach N arcs v) p)).length) c82 : Value), (.bool true : Value), (.int .i64 k : Value), (.int .i64 p : Value), (.slice (some ad80) ((reach N arcs v).length) c41 : Value), (.int .i64 ((reach N arcs v).length : Int) : Value), (.bool true : Value), (.int .i64 p : Value), (.int .i64 (p + 1) : Value), (.pointer (some ⟨g7, 0, none⟩) : Value), (.slice (some ad80) ((reach N arcs v).length) c41 : Value), (.int .i64 p : Value), (.pointer (some (ad80.add p.toNat)) : Value), (.int .i64 (rdI (reach N arcs v) p) : Value), (.slice A81 ((reach N (arcs.map swap) (rdI (reach N arcs v) p)).length) c82 : Value), (.int .i64 k : Value), (.slice A81 ((reach N (arcs.map swap) (rdI (reach N arcs v) p)).length) c82 : Value), (.int .i64 ((reach N (arcs.map swap) (rdI (reach N arcs v) p)).length : Int) : Value), (.bool false : Value), (j184 : Value), (j185 : Value), (j186 : Value), (j187 : Value), (j188 : Value), (j189 : Value), (j190 : Value), (j191 : Value), (j192 : Value), (j193 : Value), (j194 : Value), (.bool true : Value), (.bool false : Value), p + 1, congrArg Fr (by kernel_rfl), rfl, by omega, by omega, HS⟩
                  · skip
                    replace hb90 := Bool.eq_false_iff.2 hb90
                    subst hb90
                    refine ql (.bool true) (by kernel_rfl) (by kernel_rfl) ?_
                    refine wpList_nil ?_
                    refine x_then ?_
                    refine wp_cond_true (by kernel_rfl) ?_
                    refine wp_seq ?_
                    refine wp_region_lit ?_
                    refine ql (.bool false) (by kernel_rfl) (by kernel_rfl) ?_
                    refine wpList_nil ?_
                    refine x_then ?_
                    refine wp_ret ?_
                    refine x_inbR ?_
                    refine x_thenR ?_
                    refine x_thenR ?_
                    refine x_inbR ?_
                    refine x_thenR ?_
                    refine ret_ (.bool false) (by kernel_rfl) ?_
                    exact absurd (hm (by rw [List.take_of_length_le (by omega)]; exact hbm)) (by decide)
              · skip
                refine ql (.bool false) (by kernel_rfl) (R_nbool (p := p < ((reach N arcs v).length : Int)) (by kernel_rfl) (hc79)) ?_
                refine wpList_nil ?_
                refine x_then ?_
                refine wp_cond_false (by kernel_rfl) ?_
                refine wp_exit ?_
                refine x_thenE ?_
                refine x_thenE ?_
                refine x_hit ?_
                refine x_then ?_
                refine wp_seq ?_
                refine wp_region_lit ?_
                refine qc (f := 12) (args := #[]) (by kernel_rfl) (R_call #[] Try.func12 (by kernel_rfl) (by kernel_rfl) (by kernel_rfl)) ?_
                refine (awake_calls _).mono ?_
                rintro e W91 ⟨rfl, H_⟩
                refine ⟨_, rfl, ?_⟩
                replace HS : St W67 (owns []) W91 [] := HS.join (F := []) (G := []) H_
                clear H_
                refine ql (.bool true) (by kernel_rfl) (by kernel_rfl) ?_
                refine wpList_nil ?_
                refine x_then ?_
                refine wp_ret ?_
                refine ret_ (.bool true) (by kernel_rfl) ?_
                replace HS : St W13 (owns []) W91 [row A64 ((idxs (keys false arcs) v).length) c65 (ci .i64 (idxs (keys false arcs) v)) 3 1, row A61 ((idxs (keys false arcs) v).length) c62 (ci .i64 (idxs (keys false arcs) v)) 3 1, row A57 ((nexts (arcs.map swap) v).length) c58 (ci .i64 (nexts (arcs.map swap) v)) 3 1, row A54 ((arcs.map swap).length) c55 (cf arcC (arcs.map swap)) 38 2, row A51 ((nexts (arcs.map swap) v).length) c52 (ci .i64 (nexts (arcs.map swap) v)) 3 1, row A47 ((ons bs45.length bs45).length) c48 (ci .i64 (ons bs45.length bs45)) 3 1, row A43 bs45.length c44 (ci .i64 bs45) 3 1, row A40 ((reach N arcs v).length) c41 (ci .i64 (reach N arcs v)) 3 1] := HB68.join (F := []) (G := []) HS
                replace HS : St W9 (owns []) W91 [row A64 ((idxs (keys false arcs) v).length) c65 (ci .i64 (idxs (keys false arcs) v)) 3 1, row A61 ((idxs (keys false arcs) v).length) c62 (ci .i64 (idxs (keys false arcs) v)) 3 1, row A57 ((nexts (arcs.map swap) v).length) c58 (ci .i64 (nexts (arcs.map swap) v)) 3 1, row A54 ((arcs.map swap).length) c55 (cf arcC (arcs.map swap)) 38 2, row A51 ((nexts (arcs.map swap) v).length) c52 (ci .i64 (nexts (arcs.map swap) v)) 3 1, row A47 ((ons bs45.length bs45).length) c48 (ci .i64 (ons bs45.length bs45)) 3 1, row A43 bs45.length c44 (ci .i64 bs45) 3 1, row A40 ((reach N arcs v).length) c41 (ci .i64 (reach N arcs v)) 3 1] := HB14.join (F := []) (G := [row A64 ((idxs (keys false arcs) v).length) c65 (ci .i64 (idxs (keys false arcs) v)) 3 1, row A61 ((idxs (keys false arcs) v).length) c62 (ci .i64 (idxs (keys false arcs) v)) 3 1, row A57 ((nexts (arcs.map swap) v).length) c58 (ci .i64 (nexts (arcs.map swap) v)) 3 1, row A54 ((arcs.map swap).length) c55 (cf arcC (arcs.map swap)) 38 2, row A51 ((nexts (arcs.map swap) v).length) c52 (ci .i64 (nexts (arcs.map swap) v)) 3 1, row A47 ((ons bs45.length bs45).length) c48 (ci .i64 (ons bs45.length bs45)) 3 1, row A43 bs45.length c44 (ci .i64 bs45) 3 1, row A40 ((reach N arcs v).length) c41 (ci .i64 (reach N arcs v)) 3 1]) HS
                replace HS : St W5 (owns []) W91 [row A64 ((idxs (keys false arcs) v).length) c65 (ci .i64 (idxs (keys false arcs) v)) 3 1, row A61 ((idxs (keys false arcs) v).length) c62 (ci .i64 (idxs (keys false arcs) v)) 3 1, row A57 ((nexts (arcs.map swap) v).length) c58 (ci .i64 (nexts (arcs.map swap) v)) 3 1, row A54 ((arcs.map swap).length) c55 (cf arcC (arcs.map swap)) 38 2, row A51 ((nexts (arcs.map swap) v).length) c52 (ci .i64 (nexts (arcs.map swap) v)) 3 1, row A47 ((ons bs45.length bs45).length) c48 (ci .i64 (ons bs45.length bs45)) 3 1, row A43 bs45.length c44 (ci .i64 bs45) 3 1, row A40 ((reach N arcs v).length) c41 (ci .i64 (reach N arcs v)) 3 1] := HB10.join (F := []) (G := [row A64 ((idxs (keys false arcs) v).length) c65 (ci .i64 (idxs (keys false arcs) v)) 3 1, row A61 ((idxs (keys false arcs) v).length) c62 (ci .i64 (idxs (keys false arcs) v)) 3 1, row A57 ((nexts (arcs.map swap) v).length) c58 (ci .i64 (nexts (arcs.map swap) v)) 3 1, row A54 ((arcs.map swap).length) c55 (cf arcC (arcs.map swap)) 38 2, row A51 ((nexts (arcs.map swap) v).length) c52 (ci .i64 (nexts (arcs.map swap) v)) 3 1, row A47 ((ons bs45.length bs45).length) c48 (ci .i64 (ons bs45.length bs45)) 3 1, row A43 bs45.length c44 (ci .i64 bs45) 3 1, row A40 ((reach N arcs v).length) c41 (ci .i64 (reach N arcs v)) 3 1]) HS
                replace HS : St W (owns []) W91 [row A64 ((idxs (keys false arcs) v).length) c65 (ci .i64 (idxs (keys false arcs) v)) 3 1, row A61 ((idxs (keys false arcs) v).length) c62 (ci .i64 (idxs (keys false arcs) v)) 3 1, row A57 ((nexts (arcs.map swap) v).length) c58 (ci .i64 (nexts (arcs.map swap) v)) 3 1, row A54 ((arcs.map swap).length) c55 (cf arcC (arcs.map swap)) 38 2, row A51 ((nexts (arcs.map swap) v).length) c52 (ci .i64 (nexts (arcs.map swap) v)) 3 1, row A47 ((ons bs45.length bs45).length) c48 (ci .i64 (ons bs45.length bs45)) 3 1, row A43 bs45.length c44 (ci .i64 bs45) 3 1, row A40 ((reach N arcs v).length) c41 (ci .i64 (reach N arcs v)) 3 1] := HB6.join (F := []) (G := [row A64 ((idxs (keys false arcs) v).length) c65 (ci .i64 (idxs (keys false arcs) v)) 3 1, row A61 ((idxs (keys false arcs) v).length) c62 (ci .i64 (idxs (keys false arcs) v)) 3 1, row A57 ((nexts (arcs.map swap) v).length) c58 (ci .i64 (nexts (arcs.map swap) v)) 3 1, row A54 ((arcs.map swap).length) c55 (cf arcC (arcs.map swap)) 38 2, row A51 ((nexts (arcs.map swap) v).length) c52 (ci .i64 (nexts (arcs.map swap) v)) 3 1, row A47 ((ons bs45.length bs45).length) c48 (ci .i64 (ons bs45.length bs45)) 3 1, row A43 bs45.length c44 (ci .i64 bs45) 3 1, row A40 ((reach N arcs v).length) c41 (ci .i64 (reach N arcs v)) 3 1]) HS
                exact ⟨rfl, HS.tail (F := [row A64 ((idxs (keys false arcs) v).length) c65 (ci .i64 (idxs (keys false arcs) v)) 3 1, row A61 ((idxs (keys false arcs) v).length) c62 (ci .i64 (idxs (keys false arcs) v)) 3 1, row A57 ((nexts (arcs.map swap) v).length) c58 (ci .i64 (nexts (arcs.map swap) v)) 3 1, row A54 ((arcs.map swap).length) c55 (cf arcC (arcs.map swap)) 38 2, row A51 ((nexts (arcs.map swap) v).length) c52 (ci .i64 (nexts (arcs.map swap) v)) 3 1, row A47 ((ons bs45.length bs45).length) c48 (ci .i64 (ons bs45.length bs45)) 3 1, row A43 bs45.length c44 (ci .i64 bs45) 3 1, row A40 ((reach N arcs v).length) c41 (ci .i64 (reach N arcs v)) 3 1])⟩
      · refine ⟨_, rfl, ?_⟩
        replace HS : St W (owns []) W5 [] := HS.join (F := []) (G := []) H_
        clear H_
        refine ql (.tuple #[.pointer none, .int .i64 (chk n arcs)]) (by kernel_rfl) (by kernel_rfl) ?_
        refine ql (.pointer none) (by kernel_rfl) (by kernel_rfl) ?_
        refine ql (.int .i64 (chk n arcs)) (by kernel_rfl) (by kernel_rfl) ?_
        refine ql (.pointer none) (by kernel_rfl) (by kernel_rfl) ?_
        refine ql (.int .i64 (chk n arcs)) (by kernel_rfl) (by kernel_rfl) ?_
        refine wpList_nil ?_
        refine x_then ?_
        refine wp_seq ?_
        refine wp_seq ?_
        refine wp_region_lit ?_
        refine ql (.int .i64 (chk n arcs)) (by kernel_rfl) (by kernel_rfl) ?_
        refine ql (.bool true) (by kernel_rfl) (R_beq (b := (chk n arcs != (0 : Int))) (by kernel_rfl) (bne_t (by omega))) ?_
        refine wpList_nil ?_
        refine x_then ?_
        refine wp_cond_true (by kernel_rfl) ?_
        refine wp_seq ?_
        refine wp_region_lit ?_
        refine ql (.pointer none) (by kernel_rfl) (by kernel_rfl) ?_
        refine ql (.bool true) (by kernel_rfl) (by kernel_rfl) ?_
        refine ql (.bool true) (by kernel_rfl) (by kernel_rfl) ?_
        refine qc (f := 12) (args := #[]) (by kernel_rfl) (R_call #[] Try.func12 (by kernel_rfl) (by kernel_rfl) (by kernel_rfl)) ?_
        refine (awake_calls _).mono ?_
        rintro e W92 ⟨rfl, H_⟩
        refine ⟨_, rfl, ?_⟩
        replace HS : St W (owns []) W92 [] := HS.join (F := []) (G := []) H_
        clear H_
        refine ql (.bool true) (by kernel_rfl) (by kernel_rfl) ?_
        refine ql (.bool true) (by kernel_rfl) (by kernel_rfl) ?_
        refine wpList_nil ?_
        refine x_then ?_
        refine wp_ret ?_
        refine x_thenR ?_
        refine ret_ (.bool true) (by kernel_rfl) ?_
        exact ⟨rfl, HS.tail (F := [])⟩

end Go.Proofs.Ythfpdpjccnnlhaa.GGraphTurns
