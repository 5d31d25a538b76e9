/- Written for this claim by gp.py, a program of this session's, over the kit's print. Lean checks it. -/
import Derived.Test.YthfpdpjccnnlhaaGGraphTellsx0
import Derived.Test.YthfpdpjccnnlhaaGGraphTellshhp1
import Derived.Test.YthfpdpjccnnlhaaGGraphTellshhp2
import Derived.Test.YthfpdpjccnnlhaaGGraphTellshgp
import Derived.Test.YthfpdpjccnnlhaaGGraphTellshg1
import Derived.Test.YthfpdpjccnnlhaaGGraphTellshg2
import Derived.Test.YthfpdpjccnnlhaaGGraphTellshg3
import Derived.Test.YthfpdpjccnnlhaaGGraphTellshg4
import Derived.Test.YthfpdpjccnnlhaaGGraphTellshg5
import Derived.Test.YthfpdpjccnnlhaaGGraphTellshg6
import Derived.WalkKit
import Derived.StillTailTactics
import Derived.Deep.LoopGhost
import Derived.KernelRfl
import Derived.Deep.OwnRows
import Derived.Laws.OwnMore
import Derived.Laws.MakeOwn
import Derived.Maps.AppendAt
import Derived.OrdersHeld
namespace Go.Proofs.Ythfpdpjccnnlhaa.GGraphTells
open Go.RowKit Go.Proofs.YthfpdpjccnnlhaaW.PrintWords Go.Proofs.YthfpdpjccnnlhaaW.PrintLast Go.Proofs.YthfpdpjccnnlhaaW.PrintMore
attribute [local go_sem] max2_int min2_int max_two min_two max_three min_three max_four min_four   -- for this text's walks alone
set_option linter.unusedVariables false
set_option linter.unusedSimpArgs false

--import Derived.WalkKit
--import Derived.StillTailTactics
--import Derived.Deep.LoopGhost
--import Derived.KernelRfl
--import Derived.Deep.OwnRows
--import Derived.Laws.OwnMore
--import Derived.Laws.MakeOwn
--import Derived.Maps.AppendAt
--import Derived.OrdersHeld
attribute [local irreducible] wpStill wpList Code.wp TA

theorem GAt.fine {W : World} {g N : Nat} {arcs : List (Int × Int)} (h : GAt W g N arcs) : Fine N arcs := by
  obtain ⟨A1, c1, A2, c2, A3, c3, A4, c4, A5, c5, os, js, hB, r1, r2, r3, r4, r5, l1, l2, hF, rest⟩ := h; exact hF

set_option maxRecDepth 100000 in
set_option maxHeartbeats 1000000 in
theorem GraphTells_walk (n v i : Int) (A : Option Addr) (c : Nat) (arcs : List (Int × Int)) (W : World) (hr : Rd W A (cf arcC arcs)) : Calls Try.prog 4 #[.int .i64 n, .slice A arcs.length c, .int .i64 v, .int .i64 i] W fun e W' => e = .returned (.bool true) ∧ St W (owns []) W' [] := by
  have HS : St W (owns []) W [] := St.start W _
  refine calls_enter ((.int .i64 n) :: (.slice A arcs.length c) :: (.int .i64 v) :: (.int .i64 i) :: undef :: undef :: undef :: undef :: undef :: undef :: undef :: undef :: undef :: undef :: undef :: undef :: undef :: undef :: undef :: undef :: undef :: undef :: undef :: undef :: undef :: undef :: undef :: undef :: undef :: undef :: undef :: undef :: undef :: undef :: undef :: undef :: undef :: undef :: undef :: undef :: undef :: undef :: undef :: undef :: undef :: undef :: undef :: undef :: undef :: undef :: undef :: undef :: undef :: undef :: undef :: undef :: undef :: undef :: undef :: undef :: undef :: undef :: undef :: undef :: undef :: undef :: undef :: undef :: undef :: undef :: undef :: undef :: undef :: undef :: undef :: undef :: undef :: undef :: undef :: undef :: undef :: undef :: undef :: undef :: undef :: undef :: undef :: undef :: undef :: undef :: undef :: undef :: undef :: undef :: undef :: undef :: undef :: undef :: undef :: undef :: undef :: undef :: undef :: undef :: undef :: undef :: undef :: undef :: undef :: undef :: undef :: undef :: undef :: undef :: undef :: undef :: undef :: undef :: undef :: undef :: undef :: undef :: undef :: undef :: undef :: undef :: undef :: undef :: undef :: undef :: undef :: undef :: undef :: undef :: undef :: undef :: undef :: undef :: undef :: undef :: undef :: undef :: undef :: undef :: undef :: undef :: undef :: undef :: undef :: undef :: undef :: undef :: undef :: undef :: undef :: undef :: undef :: undef :: undef :: undef :: undef :: undef :: undef :: undef :: undef :: undef :: undef :: undef :: undef :: undef :: undef :: undef :: undef :: undef :: undef :: undef :: undef :: undef :: undef :: undef :: undef :: undef :: undef :: undef :: []) Try.func4 rfl (by kernel_rfl) ?_
  refine wp_seq ?_
  refine wp_region_lit ?_
  refine ql (.bool false) (by kernel_rfl) (by kernel_rfl) ?_
  refine wpList_nil ?_
  refine x_then ?_
  refine wp_seq_cut (fun a' w' => ∃ (u1_8 : Value) (u1_13 : Value) (u1_14 : Value) (u1_15 : Value) (u1_16 : Value) (u1_17 : Value) (u1_18 : Value) (u1_19 : Value) (u1_20 : Value) (u1_21 : Value) (u1_22 : Value) (u1_23 : Value) (u1_24 : Value) , a' = Fr ((.int .i64 n) :: (.slice A arcs.length c) :: (.int .i64 v) :: (.int .i64 i) :: undef :: undef :: undef :: undef :: u1_8 :: undef :: undef :: undef :: undef :: u1_13 :: u1_14 :: u1_15 :: u1_16 :: u1_17 :: u1_18 :: u1_19 :: u1_20 :: u1_21 :: u1_22 :: u1_23 :: u1_24 :: undef :: undef :: undef :: undef :: undef :: undef :: undef :: undef :: undef :: undef :: undef :: undef :: undef :: undef :: undef :: undef :: undef :: undef :: undef :: undef :: undef :: undef :: undef :: undef :: undef :: undef :: undef :: undef :: undef :: undef :: undef :: undef :: undef :: undef :: undef :: undef :: undef :: undef :: undef :: undef :: undef :: undef :: undef :: undef :: undef :: undef :: undef :: undef :: undef :: undef :: undef :: undef :: undef :: undef :: undef :: undef :: undef :: undef :: undef :: undef :: undef :: undef :: undef :: undef :: undef :: undef :: undef :: undef :: undef :: undef :: undef :: undef :: undef :: undef :: undef :: undef :: undef :: undef :: undef :: undef :: undef :: undef :: undef :: undef :: undef :: undef :: undef :: undef :: undef :: undef :: undef :: undef :: undef :: undef :: undef :: undef :: undef :: undef :: undef :: undef :: undef :: undef :: undef :: undef :: undef :: undef :: undef :: undef :: undef :: undef :: undef :: undef :: undef :: undef :: undef :: undef :: undef :: undef :: undef :: undef :: undef :: undef :: undef :: undef :: undef :: undef :: undef :: undef :: undef :: undef :: undef :: undef :: undef :: undef :: undef :: undef :: undef :: undef :: undef :: undef :: undef :: undef :: undef :: undef :: undef :: undef :: undef :: undef :: undef :: undef :: undef :: undef :: undef :: undef :: undef :: undef :: undef :: undef :: undef :: []) ∧ (arcs.length ≤ 40) ∧ (n ≤ 20 ∨ 1048576 < n) ∧ St W (owns []) w' []) ?_ ?_
  · skip
    refine wp_seq ?_
    refine wp_region_lit ?_
    refine ql (.slice A arcs.length c) (by kernel_rfl) (by kernel_rfl) ?_
    refine ql (.int .i64 (arcs.length : Int)) (by kernel_rfl) (by kernel_rfl) ?_
    by_cases hc2 : (arcs.length : Int) > (40 : Int)
    · skip
      refine ql (.bool true) (by kernel_rfl) (R_bool (p := (arcs.length : Int) > (40 : Int)) (by kernel_rfl) (hc2)) ?_
      refine ql (.bool true) (by kernel_rfl) (by kernel_rfl) ?_
      refine qln (by kernel_rfl) ?_
      refine qln (by kernel_rfl) ?_
      refine qln (by kernel_rfl) ?_
      refine qln (by kernel_rfl) ?_
      refine qln (by kernel_rfl) ?_
      refine qln (by kernel_rfl) ?_
      refine ql (.bool true) (by kernel_rfl) (by kernel_rfl) ?_
      refine wpList_nil ?_
      refine x_then ?_
      refine wp_cond_true (by kernel_rfl) ?_
      refine wp_seq ?_
      refine wp_region_lit ?_
      refine qc (f := 12) (args := #[]) (by kernel_rfl) (R_call #[] Try.func12 (by kernel_rfl) (by kernel_rfl) (by kernel_rfl)) ?_
      refine (awake_calls _).mono ?_
      rintro e W3 ⟨rfl, H_⟩
      refine ⟨_, rfl, ?_⟩
      replace HS : St W (owns []) W3 [] := HS.join (F := []) (G := []) H_
      clear H_
      refine ql (.bool true) (by kernel_rfl) (by kernel_rfl) ?_
      refine wpList_nil ?_
      refine x_then ?_
      refine wp_ret ?_
      refine x_thenR ?_
      refine ret_ (.bool true) (by kernel_rfl) ?_
      exact ⟨rfl, HS.tail (F := [])⟩
    · skip
      refine ql (.bool false) (by kernel_rfl) (R_nbool (p := (arcs.length : Int) > (40 : Int)) (by kernel_rfl) (hc2)) ?_
      refine ql (.bool false) (by kernel_rfl) (by kernel_rfl) ?_
      refine ql (.int .i64 n) (by kernel_rfl) (by kernel_rfl) ?_
      by_cases hc4 : n > (20 : Int)
      · skip
        refine ql (.bool true) (by kernel_rfl) (R_bool (p := n > (20 : Int)) (by kernel_rfl) (hc4)) ?_
        refine ql (.bool true) (by kernel_rfl) (by kernel_rfl) ?_
        refine ql (.int .i64 n) (by kernel_rfl) (by kernel_rfl) ?_
        by_cases hc5 : n ≤ (1048576 : Int)
        · skip
          refine ql (.bool true) (by kernel_rfl) (R_bool (p := n ≤ (1048576 : Int)) (by kernel_rfl) (hc5)) ?_
          refine ql (.bool true) (by kernel_rfl) (by kernel_rfl) ?_
          refine ql (.bool true) (by kernel_rfl) (by kernel_rfl) ?_
          refine wpList_nil ?_
          refine x_then ?_
          refine wp_cond_true (by kernel_rfl) ?_
          refine wp_seq ?_
          refine wp_region_lit ?_
          refine qc (f := 12) (args := #[]) (by kernel_rfl) (R_call #[] Try.func12 (by kernel_rfl) (by kernel_rfl) (by kernel_rfl)) ?_
          refine (awake_calls _).mono ?_
          rintro e W6 ⟨rfl, H_⟩
          refine ⟨_, rfl, ?_⟩
          replace HS : St W (owns []) W6 [] := HS.join (F := []) (G := []) H_
          clear H_
          refine ql (.bool true) (by kernel_rfl) (by kernel_rfl) ?_
          refine wpList_nil ?_
          refine x_then ?_
          refine wp_ret ?_
          refine x_thenR ?_
          refine ret_ (.bool true) (by kernel_rfl) ?_
          exact ⟨rfl, HS.tail (F := [])⟩
        · skip
          refine ql (.bool false) (by kernel_rfl) (R_nbool (p := n ≤ (1048576 : Int)) (by kernel_rfl) (hc5)) ?_
          refine ql (.bool false) (by kernel_rfl) (by kernel_rfl) ?_
          refine ql (.bool false) (by kernel_rfl) (by kernel_rfl) ?_
          refine wpList_nil ?_
          refine x_then ?_
          refine wp_cond_false (by kernel_rfl) ?_
          refine wp_skip ?_
          refine x_then ?_
          exact ⟨(.bool false : Value), (.slice A arcs.length c : Value), (.int .i64 (arcs.length : Int) : Value), (.bool false : Value), (.bool false : Value), (.int .i64 n : Value), (.bool true : Value), (.bool true : Value), (.int .i64 n : Value), (.bool false : Value), (.bool false : Value), (.bool false : Value), (undef : Value), congrArg Fr (by kernel_rfl), by omega, by omega, HS⟩
      · skip
        refine ql (.bool false) (by kernel_rfl) (R_nbool (p := n > (20 : Int)) (by kernel_rfl) (hc4)) ?_
        refine ql (.bool false) (by kernel_rfl) (by kernel_rfl) ?_
        refine qln (by kernel_rfl) ?_
        refine qln (by kernel_rfl) ?_
        refine ql (.bool false) (by kernel_rfl) (by kernel_rfl) ?_
        refine ql (.bool false) (by kernel_rfl) (by kernel_rfl) ?_
        refine wpList_nil ?_
        refine x_then ?_
        refine wp_cond_false (by kernel_rfl) ?_
        refine wp_skip ?_
        refine x_then ?_
        exact ⟨(.bool false : Value), (.slice A arcs.length c : Value), (.int .i64 (arcs.length : Int) : Value), (.bool false : Value), (.bool false : Value), (.int .i64 n : Value), (.bool false : Value), (.bool false : Value), (undef : Value), (undef : Value), (.bool false : Value), (.bool false : Value), (undef : Value), congrArg Fr (by kernel_rfl), by omega, by omega, HS⟩
  · clear HS
    rintro a' W7 ⟨u1_8, u1_13, u1_14, u1_15, u1_16, u1_17, u1_18, u1_19, u1_20, u1_21, u1_22, u1_23, u1_24, rfl, hlen, hnn, HS⟩
    refine wp_seq ?_
    refine wp_region_lit ?_
    refine ql (.int .i64 n) (by kernel_rfl) (by kernel_rfl) ?_
    refine ql (.slice A arcs.length c) (by kernel_rfl) (by kernel_rfl) ?_
    refine qc (f := 13) (args := #[.int .i64 n, .slice A arcs.length c]) (by kernel_rfl) (R_call #[.int .i64 n, .slice A arcs.length c] Try.func13 (by kernel_rfl) (by kernel_rfl) (by kernel_rfl)) ?_
    refine (of_calls n _ _ arcs _ (hr.old0 HS) (by first | omega | (rw [List.length_map]; omega))).mono ?_
    rintro e W8 (⟨hc, g, N, rfl, rfl, H_, hG⟩ | ⟨hc, rfl, H_⟩)
    · refine ⟨_, rfl, ?_⟩
      replace HS : St W (owns []) W8 [] := HS.join (F := []) (G := []) H_
      clear H_
      have HB9 := HS
      replace hr := hr.below (HB9.kept.below owns_nil)
      clear HS
      have HS : St W8 (owns []) W8 [] := St.start _ _
      have hFF := hG.fine
      refine ql (.tuple #[.pointer (some ⟨g, 0, none⟩), .int .i64 0]) (by kernel_rfl) (by kernel_rfl) ?_
      refine ql (.pointer (some ⟨g, 0, none⟩)) (by kernel_rfl) (by kernel_rfl) ?_
      refine ql (.int .i64 0) (by kernel_rfl) (by kernel_rfl) ?_
      refine ql (.pointer (some ⟨g, 0, none⟩)) (by kernel_rfl) (by kernel_rfl) ?_
      refine ql (.int .i64 0) (by kernel_rfl) (by kernel_rfl) ?_
      refine wpList_nil ?_
      refine x_then ?_
      refine wp_seq ?_
      refine wp_seq ?_
      refine wp_region_lit ?_
      refine ql (.int .i64 0) (by kernel_rfl) (by kernel_rfl) ?_
      refine ql (.int .i64 (N : Int)) (by kernel_rfl) (by kernel_rfl) ?_
      refine ql (.slice A arcs.length c) (by kernel_rfl) (by kernel_rfl) ?_
      refine qc (f := 16) (args := #[.int .i64 (N : Int), .slice A arcs.length c]) (by kernel_rfl) (R_call #[.int .i64 (N : Int), .slice A arcs.length c] Try.func16 (by kernel_rfl) (by kernel_rfl) (by kernel_rfl)) ?_
      refine (check_calls (N : Int) _ _ arcs _ (hr.old0 HS) (by first | omega | (rw [List.length_map]; omega))).mono ?_
      rintro e W10 ⟨rfl, H_⟩
      refine ⟨_, rfl, ?_⟩
      replace HS : St W8 (owns []) W10 [] := HS.join (F := []) (G := []) H_
      clear H_
      refine ql (.bool false) (by kernel_rfl) (R_beq (b := ((0 : Int) != chk (N : Int) arcs)) (by kernel_rfl) (bne_f (by omega))) ?_
      refine ql (.bool false) (by kernel_rfl) (by kernel_rfl) ?_
      refine ql (.pointer (some ⟨g, 0, none⟩)) (by kernel_rfl) (by kernel_rfl) ?_
      refine ql (.bool true) (by kernel_rfl) (by kernel_rfl) ?_
      refine ql (.int .i64 0) (by kernel_rfl) (by kernel_rfl) ?_
      refine ql (.bool true) (by kernel_rfl) (R_beq (b := ((0 : Int) == 0)) (by kernel_rfl) (by decide)) ?_
      refine ql (.bool false) (by kernel_rfl) (by kernel_rfl) ?_
      refine ql (.bool false) (by kernel_rfl) (by kernel_rfl) ?_
      refine wpList_nil ?_
      refine x_then ?_
      refine wp_cond_false (by kernel_rfl) ?_
      refine wp_skip ?_
      refine x_then ?_
      refine wp_seq ?_
      refine wp_seq ?_
      refine wp_region_lit ?_
      refine ql (.int .i64 0) (by kernel_rfl) (by kernel_rfl) ?_
      refine ql (.bool false) (by kernel_rfl) (R_beq (b := ((0 : Int) != 0)) (by kernel_rfl) (by decide)) ?_
      refine wpList_nil ?_
      refine x_then ?_
      refine wp_cond_false (by kernel_rfl) ?_
      refine wp_skip ?_
      refine x_then ?_
      refine wp_seq ?_
      refine wp_region_lit ?_
      refine ql (.pointer (some ⟨g, 0, none⟩)) (by kernel_rfl) (by kernel_rfl) ?_
      refine ql (.int .i64 i) (by kernel_rfl) (by kernel_rfl) ?_
      refine qc (f := 22) (args := #[.pointer (some ⟨g, 0, none⟩), .int .i64 i]) (by kernel_rfl) (R_call #[.pointer (some ⟨g, 0, none⟩), .int .i64 i] Try.func22 (by kernel_rfl) (by kernel_rfl) (by kernel_rfl)) ?_
      refine (arc_some g N arcs _ (hG.below (HS.kept.below owns_nil)) i).mono ?_
      rintro e W11 (⟨ha0, ha1, rfl, H_⟩ | ⟨han, rfl, H_⟩)
      · refine ⟨_, rfl, ?_⟩
        replace HS : St W8 (owns []) W11 [] := HS.join (F := []) (G := []) H_
        clear H_
        refine ql (.tuple #[.agg #[.int .i64 ((gx arcs i).1), .int .i64 ((gx arcs i).2)], .bool true]) (by kernel_rfl) (by kernel_rfl) ?_
        refine ql (.agg #[.int .i64 ((gx arcs i).1), .int .i64 ((gx arcs i).2)]) (by kernel_rfl) (by kernel_rfl) ?_
        refine ql (.bool true) (by kernel_rfl) (by kernel_rfl) ?_
        refine kb HS [.int .i64 0, .int .i64 0] 35 (fun g => .pointer (some ⟨g, 0, none⟩)) (by kernel_rfl) (by kernel_rfl) ?_
        intro g12 W13 H_
        replace HS : St W8 (owns []) W13 [blk g12 [.int .i64 0, .int .i64 0] 35] := H_
        clear H_
        refine ks (v := .agg #[.int .i64 ((gx arcs i).1), .int .i64 ((gx arcs i).2)]) HS 0 rfl (0) [.int .i64 ((gx arcs i).1), .int .i64 ((gx arcs i).2)] (by kernel_rfl) (by kernel_rfl) (by kernel_rfl) (by kernel_rfl) (by kernel_rfl) (one_ (by kernel_rfl)) (Nat.le_of_ble_eq_true rfl) rfl ?_
        intro W14 H_
        replace HS : St W8 (owns []) W14 [blk g12 [.int .i64 ((gx arcs i).1), .int .i64 ((gx arcs i).2)] 35] := H_
        clear H_
        refine ql (.bool true) (by kernel_rfl) (by kernel_rfl) ?_
        refine wpList_nil ?_
        refine x_then ?_
        refine wp_seq ?_
        refine wp_seq ?_
        refine rg_still HS 46 (by kernel_rfl) (by kernel_rfl) ?_
        intro W15 H_ HK_
        simp only [List.take_succ_cons, List.take_zero, List.drop_succ_cons, List.drop_zero]
        replace HS : St W8 (owns []) W15 [blk g12 [.int .i64 ((gx arcs i).1), .int .i64 ((gx arcs i).2)] 35] := H_
        clear H_
        clear HK_
        refine qs (.bool true) (by kernel_rfl) (by kernel_rfl) ?_
        refine qs (.int .i64 i) (by kernel_rfl) (by kernel_rfl) ?_
        refine qs (.bool true) (by kernel_rfl) (R_bool (p := i ≥ (0 : Int)) (by kernel_rfl) (by omega)) ?_
        refine qs (.bool true) (by kernel_rfl) (by kernel_rfl) ?_
        refine qs (.int .i64 i) (by kernel_rfl) (by kernel_rfl) ?_
        refine qs (.slice A arcs.length c) (by kernel_rfl) (by kernel_rfl) ?_
        refine qs (.int .i64 (arcs.length : Int)) (by kernel_rfl) (by kernel_rfl) ?_
        refine qs (.bool true) (by kernel_rfl) (R_bool (p := i < (arcs.length : Int)) (by kernel_rfl) (by omega)) ?_
        refine qs (.bool true) (by kernel_rfl) (by kernel_rfl) ?_
        refine qs (.bool false) (by kernel_rfl) (by kernel_rfl) ?_
        refine qs (.bool false) (by kernel_rfl) (by kernel_rfl) ?_
        refine qs (.bool true) (by kernel_rfl) (by kernel_rfl) ?_
        refine qs (.bool true) (by kernel_rfl) (by kernel_rfl) ?_
        refine qs (.pointer (some ⟨g12, 0, none⟩)) (by kernel_rfl) (by kernel_rfl) ?_
        refine qs (.int .i64 ((gx arcs i).1)) (by kernel_rfl) (R_load (p := ⟨g12, 0, none⟩) (by kernel_rfl) (by kernel_rfl) (by kernel_rfl) (HS.cell (i := 0) (j := 0) rfl rfl)) ?_
        refine qs (.slice A arcs.length c) (by kernel_rfl) (by kernel_rfl) ?_
        refine qs (.int .i64 i) (by kernel_rfl) (by kernel_rfl) ?_
        obtain ⟨ad16, rfl⟩ := Rd.isSome_ hr (by rw [cf_len (z := 2) (fun _ => rfl)]; omega)
        refine qs (.pointer (some (ad16.add (i.toNat * 2)))) (by kernel_rfl) (R_indexA (k := .i64) (p := ad16) (n := arcs.length) (c := c) (i := i) (by kernel_rfl) (by kernel_rfl) Try.underlying22 (by kernel_rfl) (by omega) (by omega)) ?_
        refine qs (.pointer (some (ad16.add (i.toNat * 2)))) (by kernel_rfl) (by kernel_rfl) ?_
        refine qs (.int .i64 ((gx arcs i).1)) (by kernel_rfl) (R_load (p := ad16.add (i.toNat * 2)) (by kernel_rfl) (by kernel_rfl) (by kernel_rfl) (HS.old0 (Rd.elem0 (f := arcC) (fun _ => rfl) hr (gx_eq (by omega) (by omega)) rfl))) ?_
        refine qs (.bool false) (by kernel_rfl) (R_beq (b := ((gx arcs i).1 != (gx arcs i).1)) (by kernel_rfl) (bne_f (by omega))) ?_
        refine qs (.bool false) (by kernel_rfl) (by kernel_rfl) ?_
        refine qs (.pointer (some ⟨g12, 1, none⟩)) (by kernel_rfl) (by kernel_rfl) ?_
        refine qs (.int .i64 ((gx arcs i).2)) (by kernel_rfl) (R_load (p := ⟨g12, 1, none⟩) (by kernel_rfl) (by kernel_rfl) (by kernel_rfl) (HS.cell (i := 0) (j := 1) rfl rfl)) ?_
        refine qs (.slice (some ad16) arcs.length c) (by kernel_rfl) (by kernel_rfl) ?_
        refine qs (.int .i64 i) (by kernel_rfl) (by kernel_rfl) ?_
        refine qs (.pointer (some (ad16.add (i.toNat * 2)))) (by kernel_rfl) (R_indexA (k := .i64) (p := ad16) (n := arcs.length) (c := c) (i := i) (by kernel_rfl) (by kernel_rfl) Try.underlying22 (by kernel_rfl) (by omega) (by omega)) ?_
        refine qs (.pointer (some ((ad16.add (i.toNat * 2)).add 1))) (by kernel_rfl) (by kernel_rfl) ?_
        refine qs (.int .i64 ((gx arcs i).2)) (by kernel_rfl) (R_load (p := (ad16.add (i.toNat * 2)).add 1) (by kernel_rfl) (by kernel_rfl) (by kernel_rfl) (HS.old0 (Rd.elem1 (k := 1) (f := arcC) (fun _ => rfl) hr (gx_eq (by omega) (by omega)) rfl))) ?_
        refine qs (.bool false) (by kernel_rfl) (R_beq (b := ((gx arcs i).2 != (gx arcs i).2)) (by kernel_rfl) (bne_f (by omega))) ?_
        refine qs (.bool false) (by kernel_rfl) (by kernel_rfl) ?_
        refine qs (.bool false) (by kernel_rfl) (by kernel_rfl) ?_
        refine qs (.bool false) (by kernel_rfl) (by kernel_rfl) ?_
        refine qs (.bool false) (by kernel_rfl) (by kernel_rfl) ?_
        refine qs (.bool true) (by kernel_rfl) (by kernel_rfl) ?_
        refine qs (.bool false) (by kernel_rfl) (by kernel_rfl) ?_
        refine qs (.bool false) (by kernel_rfl) (by kernel_rfl) ?_
        refine qsn (by kernel_rfl) ?_
        refine qsn (by kernel_rfl) ?_
        refine qsn (by kernel_rfl) ?_
        refine qsn (by kernel_rfl) ?_
        refine qsn (by kernel_rfl) ?_
        refine qsn (by kernel_rfl) ?_
        refine qsn (by kernel_rfl) ?_
        refine qsn (by kernel_rfl) ?_
        refine qs (.bool false) (by kernel_rfl) (by kernel_rfl) ?_
        refine wpStill_nil ?_
        refine ql (.bool false) (by kernel_rfl) (by kernel_rfl) ?_
        refine wpList_nil ?_
        refine x_then ?_
        refine wp_cond_false (by kernel_rfl) ?_
        refine wp_skip ?_
        refine x_then ?_
        refine wp_seq ?_
        refine wp_region_lit ?_
        refine ql (.pointer (some ⟨g, 0, none⟩)) (by kernel_rfl) (by kernel_rfl) ?_
        refine qc (f := 17) (args := #[.pointer (some ⟨g, 0, none⟩)]) (by kernel_rfl) (R_call #[.pointer (some ⟨g, 0, none⟩)] Try.func17 (by kernel_rfl) (by kernel_rfl) (by kernel_rfl)) ?_
        refine (nodessome g N arcs _ (hG.below (HS.kept.below owns_nil))).mono ?_
        rintro e W17 ⟨rfl, H_⟩
        refine ⟨_, rfl, ?_⟩
        replace HS : St W8 (owns []) W17 [blk g12 [.int .i64 ((gx arcs i).1), .int .i64 ((gx arcs i).2)] 35] := HS.join (F := []) (G := []) H_
        clear H_
        refine ql (.int .i64 (N : Int)) (by kernel_rfl) (by kernel_rfl) ?_
        refine ql (.bool true) (by kernel_rfl) (R_beq (b := ((N : Int) == (N : Int))) (by kernel_rfl) (beq_t (by omega))) ?_
        refine ql (.bool true) (by kernel_rfl) (by kernel_rfl) ?_
        refine ql (.pointer (some ⟨g, 0, none⟩)) (by kernel_rfl) (by kernel_rfl) ?_
        refine qc (f := 18) (args := #[.pointer (some ⟨g, 0, none⟩)]) (by kernel_rfl) (R_call #[.pointer (some ⟨g, 0, none⟩)] Try.func18 (by kernel_rfl) (by kernel_rfl) (by kernel_rfl)) ?_
        refine (arcs_some g N arcs _ (hG.below (HS.kept.below owns_nil))).mono ?_
        rintro e W18 ⟨rfl, H_⟩
        refine ⟨_, rfl, ?_⟩
        replace HS : St W8 (owns []) W18 [blk g12 [.int .i64 ((gx arcs i).1), .int .i64 ((gx arcs i).2)] 35] := HS.join (F := []) (G := []) H_
        clear H_
        refine ql (.slice (some ad16) arcs.length c) (by kernel_rfl) (by kernel_rfl) ?_
        refine ql (.int .i64 (arcs.length : Int)) (by kernel_rfl) (by kernel_rfl) ?_
        refine ql (.bool true) (by kernel_rfl) (R_beq (b := ((arcs.length : Int) == (arcs.length : Int))) (by kernel_rfl) (beq_t (by omega))) ?_
        refine ql (.bool true) (by kernel_rfl) (by kernel_rfl) ?_
        refine ql (.bool true) (by kernel_rfl) (by kernel_rfl) ?_
        refine ql (.pointer (some ⟨g, 0, none⟩)) (by kernel_rfl) (by kernel_rfl) ?_
        refine ql (.int .i64 v) (by kernel_rfl) (by kernel_rfl) ?_
        refine qc (f := 19) (args := #[.pointer (some ⟨g, 0, none⟩), .int .i64 v]) (by kernel_rfl) (R_call #[.pointer (some ⟨g, 0, none⟩), .int .i64 v] Try.func19 (by kernel_rfl) (by kernel_rfl) (by kernel_rfl)) ?_
        by_cases hvr : 0 ≤ v ∧ v < (N : Int)
        · skip
          refine (out_yes g N arcs _ (hG.below (HS.kept.below owns_nil)) v (by omega) (by omega)).mono ?_
          rintro e W21 ⟨A19, c20, rfl, H_⟩
          refine ⟨_, rfl, ?_⟩
          replace HS : St W8 (owns []) W21 [row A19 ((idxs (keys false arcs) v).length) c20 (ci .i64 (idxs (keys false arcs) v)) 3 1, blk g12 [.int .i64 ((gx arcs i).1), .int .i64 ((gx arcs i).2)] 35] := HS.join (F := []) (G := [row A19 ((idxs (keys false arcs) v).length) c20 (ci .i64 (idxs (keys false arcs) v)) 3 1]) H_
          clear H_
          refine ql (.slice (some ad16) arcs.length c) (by kernel_rfl) (by kernel_rfl) ?_
          refine ql (.int .i64 v) (by kernel_rfl) (by kernel_rfl) ?_
          refine qc (f := 24) (args := #[.slice (some ad16) arcs.length c, .int .i64 v]) (by kernel_rfl) (R_call #[.slice (some ad16) arcs.length c, .int .i64 v] Try.func24 (by kernel_rfl) (by kernel_rfl) (by kernel_rfl)) ?_
          refine (ref_out _ _ arcs _ (hr.old0 HS) (by first | omega | (rw [List.length_map]; omega)) v).mono ?_
          rintro e W24 ⟨A22, c23, rfl, H_⟩
          refine ⟨_, rfl, ?_⟩
          replace HS : St W8 (owns []) W24 [row A22 ((idxs (keys false arcs) v).length) c23 (ci .i64 (idxs (keys false arcs) v)) 3 1, row A19 ((idxs (keys false arcs) v).length) c20 (ci .i64 (idxs (keys false arcs) v)) 3 1, blk g12 [.int .i64 ((gx arcs i).1), .int .i64 ((gx arcs i).2)] 35] := HS.join (F := []) (G := [row A22 ((idxs (keys false arcs) v).length) c23 (ci .i64 (idxs (keys false arcs) v)) 3 1]) H_
          clear H_
          refine qc (f := 23) (args := #[.slice A19 ((idxs (keys false arcs) v).length) c20, .slice A22 ((idxs (keys false arcs) v).length) c23]) (by kernel_rfl) (R_call #[.slice A19 ((idxs (keys false arcs) v).length) c20, .slice A22 ((idxs (keys false arcs) v).length) c23] Try.func23 (by kernel_rfl) (by kernel_rfl) (by kernel_rfl)) ?_
          refine (same_eq _ _ _ _ (idxs (keys false arcs) v) (idxs (keys false arcs) v) _ rfl (Rd.row HS (i := 1) rfl) (Rd.row HS (i := 0) rfl) (by first | (have := idxs_le false arcs v; have := idxs_le true arcs v; omega) | (have := idxs_le false arcs v; rw [nexts_len]; omega) | (simp; done) | (have := idxs_le false (arcs.map swap) v; rw [List.length_map] at this; omega))).mono ?_
          rintro e W25 ⟨rfl, H_⟩
          refine ⟨_, rfl, ?_⟩
          replace HS : St W8 (owns []) W25 [row A22 ((idxs (keys false arcs) v).length) c23 (ci .i64 (idxs (keys false arcs) v)) 3 1, row A19 ((idxs (keys false arcs) v).length) c20 (ci .i64 (idxs (keys false arcs) v)) 3 1, blk g12 [.int .i64 ((gx arcs i).1), .int .i64 ((gx arcs i).2)] 35] := HS.join (F := []) (G := []) H_
          clear H_
          refine ql (.bool true) (by kernel_rfl) (by kernel_rfl) ?_
          refine ql (.bool true) (by kernel_rfl) (by kernel_rfl) ?_
          refine ql (.pointer (some ⟨g, 0, none⟩)) (by kernel_rfl) (by kernel_rfl) ?_
          refine ql (.int .i64 v) (by kernel_rfl) (by kernel_rfl) ?_
          refine qc (f := 20) (args := #[.pointer (some ⟨g, 0, none⟩), .int .i64 v]) (by kernel_rfl) (R_call #[.pointer (some ⟨g, 0, none⟩), .int .i64 v] Try.func20 (by kernel_rfl) (by kernel_rfl) (by kernel_rfl)) ?_
          refine (in_yes g N arcs _ (hG.below (HS.kept.below owns_nil)) v (by omega) (by omega)).mono ?_
          rintro e W28 ⟨A26, c27, rfl, H_⟩
          refine ⟨_, rfl, ?_⟩
          replace HS : St W8 (owns []) W28 [row A26 ((idxs (keys true arcs) v).length) c27 (ci .i64 (idxs (keys true arcs) v)) 3 1, row A22 ((idxs (keys false arcs) v).length) c23 (ci .i64 (idxs (keys false arcs) v)) 3 1, row A19 ((idxs (keys false arcs) v).length) c20 (ci .i64 (idxs (keys false arcs) v)) 3 1, blk g12 [.int .i64 ((gx arcs i).1), .int .i64 ((gx arcs i).2)] 35] := HS.join (F := []) (G := [row A26 ((idxs (keys true arcs) v).length) c27 (ci .i64 (idxs (keys true arcs) v)) 3 1]) H_
          clear H_
          refine ql (.slice (some ad16) arcs.length c) (by kernel_rfl) (by kernel_rfl) ?_
          refine qc (f := 25) (args := #[.slice (some ad16) arcs.length c]) (by kernel_rfl) (R_call #[.slice (some ad16) arcs.length c] Try.func25 (by kernel_rfl) (by kernel_rfl) (by kernel_rfl)) ?_
          refine (ref_turn _ _ arcs _ (hr.old0 HS) (by first | omega | (rw [List.length_map]; omega)) ).mono ?_
          rintro e W31 ⟨A29, c30, rfl, H_⟩
          refine ⟨_, rfl, ?_⟩
          replace HS : St W8 (owns []) W31 [row A29 ((arcs.map swap).length) c30 (cf arcC (arcs.map swap)) 38 2, row A26 ((idxs (keys true arcs) v).length) c27 (ci .i64 (idxs (keys true arcs) v)) 3 1, row A22 ((idxs (keys false arcs) v).length) c23 (ci .i64 (idxs (keys false arcs) v)) 3 1, row A19 ((idxs (keys false arcs) v).length) c20 (ci .i64 (idxs (keys false arcs) v)) 3 1, blk g12 [.int .i64 ((gx arcs i).1), .int .i64 ((gx arcs i).2)] 35] := HS.join (F := []) (G := [row A29 ((arcs.map swap).length) c30 (cf arcC (arcs.map swap)) 38 2]) H_
          clear H_
          refine ql (.int .i64 v) (by kernel_rfl) (by kernel_rfl) ?_
          refine qc (f := 24) (args := #[.slice A29 ((arcs.map swap).length) c30, .int .i64 v]) (by kernel_rfl) (R_call #[.slice A29 ((arcs.map swap).length) c30, .int .i64 v] Try.func24 (by kernel_rfl) (by kernel_rfl) (by kernel_rfl)) ?_
          refine (ref_out _ _ (arcs.map swap) _ (Rd.row HS (i := 0) rfl) (by first | omega | (rw [List.length_map]; omega)) v).mono ?_
          rintro e W34 ⟨A32, c33, rfl, H_⟩
          refine ⟨_, rfl, ?_⟩
          replace HS : St W8 (owns []) W34 [row A32 ((idxs (keys false (arcs.map swap)) v).length) c33 (ci .i64 (idxs (keys false (arcs.map swap)) v)) 3 1, row A29 ((arcs.map swap).length) c30 (cf arcC (arcs.map swap)) 38 2, row A26 ((idxs (keys true arcs) v).length) c27 (ci .i64 (idxs (keys true arcs) v)) 3 1, row A22 ((idxs (keys false arcs) v).length) c23 (ci .i64 (idxs (keys false arcs) v)) 3 1, row A19 ((idxs (keys false arcs) v).length) c20 (ci .i64 (idxs (keys false arcs) v)) 3 1, blk g12 [.int .i64 ((gx arcs i).1), .int .i64 ((gx arcs i).2)] 35] := HS.join (F := []) (G := [row A32 ((idxs (keys false (arcs.map swap)) v).length) c33 (ci .i64 (idxs (keys false (arcs.map swap)) v)) 3 1]) H_
          clear H_
          refine qc (f := 23) (args := #[.slice A26 ((idxs (keys true arcs) v).length) c27, .slice A32 ((idxs (keys false (arcs.map swap)) v).length) c33]) (by kernel_rfl) (R_call #[.slice A26 ((idxs (keys true arcs) v).length) c27, .slice A32 ((idxs (keys false (arcs.map swap)) v).length) c33] Try.func23 (by kernel_rfl) (by kernel_rfl) (by kernel_rfl)) ?_
          refine (same_eq _ _ _ _ (idxs (keys true arcs) v) (idxs (keys false (arcs.map swap)) v) _ (by first | rfl | (rw [keys_swap]; rfl) | exact (idxs_out hFF hvr).symm | exact (nexts_out hFF hvr).symm | (rw [keys_swap]; exact (idxs_out hFF hvr).symm)) (Rd.row HS (i := 2) rfl) (Rd.row HS (i := 0) rfl) (by first | (have := idxs_le false arcs v; have := idxs_le true arcs v; omega) | (have := idxs_le false arcs v; rw [nexts_len]; omega) | (simp; done) | (have := idxs_le false (arcs.map swap) v; rw [List.length_map] at this; omega))).mono ?_
          rintro e W35 ⟨rfl, H_⟩
          refine ⟨_, rfl, ?_⟩
          replace HS : St W8 (owns []) W35 [row A32 ((idxs (keys false (arcs.map swap)) v).length) c33 (ci .i64 (idxs (keys false (arcs.map swap)) v)) 3 1, row A29 ((arcs.map swap).length) c30 (cf arcC (arcs.map swap)) 38 2, row A26 ((idxs (keys true arcs) v).length) c27 (ci .i64 (idxs (keys true arcs) v)) 3 1, row A22 ((idxs (keys false arcs) v).length) c23 (ci .i64 (idxs (keys false arcs) v)) 3 1, row A19 ((idxs (keys false arcs) v).length) c20 (ci .i64 (idxs (keys false arcs) v)) 3 1, blk g12 [.int .i64 ((gx arcs i).1), .int .i64 ((gx arcs i).2)] 35] := HS.join (F := []) (G := []) H_
          clear H_
          refine ql (.bool true) (by kernel_rfl) (by kernel_rfl) ?_
          refine ql (.bool true) (by kernel_rfl) (by kernel_rfl) ?_
          refine ql (.pointer (some ⟨g, 0, none⟩)) (by kernel_rfl) (by kernel_rfl) ?_
          refine ql (.int .i64 v) (by kernel_rfl) (by kernel_rfl) ?_
          refine qc (f := 15) (args := #[.pointer (some ⟨g, 0, none⟩), .int .i64 v]) (by kernel_rfl) (R_call #[.pointer (some ⟨g, 0, none⟩), .int .i64 v] Try.func15 (by kernel_rfl) (by kernel_rfl) (by kernel_rfl)) ?_
          refine (next_yes g N arcs _ (hG.below (HS.kept.below owns_nil)) v (by omega) (by omega)).mono ?_
          rintro e W38 ⟨A36, c37, rfl, H_⟩
          refine ⟨_, rfl, ?_⟩
          replace HS : St W8 (owns []) W38 [row A36 ((nexts arcs v).length) c37 (ci .i64 (nexts arcs v)) 3 1, row A32 ((idxs (keys false (arcs.map swap)) v).length) c33 (ci .i64 (idxs (keys false (arcs.map swap)) v)) 3 1, row A29 ((arcs.map swap).length) c30 (cf arcC (arcs.map swap)) 38 2, row A26 ((idxs (keys true arcs) v).length) c27 (ci .i64 (idxs (keys true arcs) v)) 3 1, row A22 ((idxs (keys false arcs) v).length) c23 (ci .i64 (idxs (keys false arcs) v)) 3 1, row A19 ((idxs (keys false arcs) v).length) c20 (ci .i64 (idxs (keys false arcs) v)) 3 1, blk g12 [.int .i64 ((gx arcs i).1), .int .i64 ((gx arcs i).2)] 35] := HS.join (F := []) (G := [row A36 ((nexts arcs v).length) c37 (ci .i64 (nexts arcs v)) 3 1]) H_
          clear H_
          refine ql (.slice (some ad16) arcs.length c) (by kernel_rfl) (by kernel_rfl) ?_
          refine ql (.int .i64 v) (by kernel_rfl) (by kernel_rfl) ?_
          refine qc (f := 26) (args := #[.slice (some ad16) arcs.length c, .int .i64 v]) (by kernel_rfl) (R_call #[.slice (some ad16) arcs.length c, .int .i64 v] Try.func26 (by kernel_rfl) (by kernel_rfl) (by kernel_rfl)) ?_
          refine (ref_next _ _ arcs _ (hr.old0 HS) (by first | omega | (rw [List.length_map]; omega)) v).mono ?_
          rintro e W41 ⟨A39, c40, rfl, H_⟩
          refine ⟨_, rfl, ?_⟩
          replace HS : St W8 (owns []) W41 [row A39 ((nexts arcs v).length) c40 (ci .i64 (nexts arcs v)) 3 1, row A36 ((nexts arcs v).length) c37 (ci .i64 (nexts arcs v)) 3 1, row A32 ((idxs (keys false (arcs.map swap)) v).length) c33 (ci .i64 (idxs (keys false (arcs.map swap)) v)) 3 1, row A29 ((arcs.map swap).length) c30 (cf arcC (arcs.map swap)) 38 2, row A26 ((idxs (keys true arcs) v).length) c27 (ci .i64 (idxs (keys true arcs) v)) 3 1, row A22 ((idxs (keys false arcs) v).length) c23 (ci .i64 (idxs (keys false arcs) v)) 3 1, row A19 ((idxs (keys false arcs) v).length) c20 (ci .i64 (idxs (keys false arcs) v)) 3 1, blk g12 [.int .i64 ((gx arcs i).1), .int .i64 ((gx arcs i).2)] 35] := HS.join (F := []) (G := [row A39 ((nexts arcs v).length) c40 (ci .i64 (nexts arcs v)) 3 1]) H_
          clear H_
          refine qc (f := 23) (args := #[.slice A36 ((nexts arcs v).length) c37, .slice A39 ((nexts arcs v).length) c40]) (by kernel_rfl) (R_call #[.slice A36 ((nexts arcs v).length) c37, .slice A39 ((nexts arcs v).length) c40] Try.func23 (by kernel_rfl) (by kernel_rfl) (by kernel_rfl)) ?_
          refine (same_eq _ _ _ _ (nexts arcs v) (nexts arcs v) _ rfl (Rd.row HS (i := 1) rfl) (Rd.row HS (i := 0) rfl) (by first | (have := idxs_le false arcs v; have := idxs_le true arcs v; omega) | (have := idxs_le false arcs v; rw [nexts_len]; omega) | (simp; done) | (have := idxs_le false (arcs.map swap) v; rw [List.length_map] at this; omega))).mono ?_
          rintro e W42 ⟨rfl, H_⟩
          refine ⟨_, rfl, ?_⟩
          replace HS : St W8 (owns []) W42 [row A39 ((nexts arcs v).length) c40 (ci .i64 (nexts arcs v)) 3 1, row A36 ((nexts arcs v).length) c37 (ci .i64 (nexts arcs v)) 3 1, row A32 ((idxs (keys false (arcs.map swap)) v).length) c33 (ci .i64 (idxs (keys false (arcs.map swap)) v)) 3 1, row A29 ((arcs.map swap).length) c30 (cf arcC (arcs.map swap)) 38 2, row A26 ((idxs (keys true arcs) v).length) c27 (ci .i64 (idxs (keys true arcs) v)) 3 1, row A22 ((idxs (keys false arcs) v).length) c23 (ci .i64 (idxs (keys false arcs) v)) 3 1, row A19 ((idxs (keys false arcs) v).length) c20 (ci .i64 (idxs (keys false arcs) v)) 3 1, blk g12 [.int .i64 ((gx arcs i).1), .int .i64 ((gx arcs i).2)] 35] := HS.join (F := []) (G := []) H_
          clear H_
          refine ql (.bool true) (by kernel_rfl) (by kernel_rfl) ?_
          refine ql (.bool true) (by kernel_rfl) (by kernel_rfl) ?_
          refine qc (f := 12) (args := #[]) (by kernel_rfl) (R_call #[] Try.func12 (by kernel_rfl) (by kernel_rfl) (by kernel_rfl)) ?_
          refine (awake_calls _).mono ?_
          rintro e W43 ⟨rfl, H_⟩
          refine ⟨_, rfl, ?_⟩
          replace HS : St W8 (owns []) W43 [row A39 ((nexts arcs v).length) c40 (ci .i64 (nexts arcs v)) 3 1, row A36 ((nexts arcs v).length) c37 (ci .i64 (nexts arcs v)) 3 1, row A32 ((idxs (keys false (arcs.map swap)) v).length) c33 (ci .i64 (idxs (keys false (arcs.map swap)) v)) 3 1, row A29 ((arcs.map swap).length) c30 (cf arcC (arcs.map swap)) 38 2, row A26 ((idxs (keys true arcs) v).length) c27 (ci .i64 (idxs (keys true arcs) v)) 3 1, row A22 ((idxs (keys false arcs) v).length) c23 (ci .i64 (idxs (keys false arcs) v)) 3 1, row A19 ((idxs (keys false arcs) v).length) c20 (ci .i64 (idxs (keys false arcs) v)) 3 1, blk g12 [.int .i64 ((gx arcs i).1), .int .i64 ((gx arcs i).2)] 35] := HS.join (F := []) (G := []) H_
          clear H_
          refine ql (.bool true) (by kernel_rfl) (by kernel_rfl) ?_
          refine ql (.bool true) (by kernel_rfl) (by kernel_rfl) ?_
          refine wpList_nil ?_
          refine x_then ?_
          refine wp_ret ?_
          refine ret_ (.bool true) (by kernel_rfl) ?_
          replace HS : St W (owns []) W43 [row A39 ((nexts arcs v).length) c40 (ci .i64 (nexts arcs v)) 3 1, row A36 ((nexts arcs v).length) c37 (ci .i64 (nexts arcs v)) 3 1, row A32 ((idxs (keys false (arcs.map swap)) v).length) c33 (ci .i64 (idxs (keys false (arcs.map swap)) v)) 3 1, row A29 ((arcs.map swap).length) c30 (cf arcC (arcs.map swap)) 38 2, row A26 ((idxs (keys true arcs) v).length) c27 (ci .i64 (idxs (keys true arcs) v)) 3 1, row A22 ((idxs (keys false arcs) v).length) c23 (ci .i64 (idxs (keys false arcs) v)) 3 1, row A19 ((idxs (keys false arcs) v).length) c20 (ci .i64 (idxs (keys false arcs) v)) 3 1, blk g12 [.int .i64 ((gx arcs i).1), .int .i64 ((gx arcs i).2)] 35] := HB9.join (F := []) (G := [row A39 ((nexts arcs v).length) c40 (ci .i64 (nexts arcs v)) 3 1, row A36 ((nexts arcs v).length) c37 (ci .i64 (nexts arcs v)) 3 1, row A32 ((idxs (keys false (arcs.map swap)) v).length) c33 (ci .i64 (idxs (keys false (arcs.map swap)) v)) 3 1, row A29 ((arcs.map swap).length) c30 (cf arcC (arcs.map swap)) 38 2, row A26 ((idxs (keys true arcs) v).length) c27 (ci .i64 (idxs (keys true arcs) v)) 3 1, row A22 ((idxs (keys false arcs) v).length) c23 (ci .i64 (idxs (keys false arcs) v)) 3 1, row A19 ((idxs (keys false arcs) v).length) c20 (ci .i64 (idxs (keys false arcs) v)) 3 1, blk g12 [.int .i64 ((gx arcs i).1), .int .i64 ((gx arcs i).2)] 35]) HS
          exact ⟨rfl, HS.tail (F := [row A39 ((nexts arcs v).length) c40 (ci .i64 (nexts arcs v)) 3 1, row A36 ((nexts arcs v).length) c37 (ci .i64 (nexts arcs v)) 3 1, row A32 ((idxs (keys false (arcs.map swap)) v).length) c33 (ci .i64 (idxs (keys false (arcs.map swap)) v)) 3 1, row A29 ((arcs.map swap).length) c30 (cf arcC (arcs.map swap)) 38 2, row A26 ((idxs (keys true arcs) v).length) c27 (ci .i64 (idxs (keys true arcs) v)) 3 1, row A22 ((idxs (keys false arcs) v).length) c23 (ci .i64 (idxs (keys false arcs) v)) 3 1, row A19 ((idxs (keys false arcs) v).length) c20 (ci .i64 (idxs (keys false arcs) v)) 3 1, blk g12 [.int .i64 ((gx arcs i).1), .int .i64 ((gx arcs i).2)] 35])⟩
        · skip
          refine (out_no g N arcs _ (hG.below (HS.kept.below owns_nil)) v (by omega)).mono ?_
          rintro e W46 ⟨rfl, H_⟩
          refine ⟨_, rfl, ?_⟩
          replace HS : St W8 (owns []) W46 [blk g12 [.int .i64 ((gx arcs i).1), .int .i64 ((gx arcs i).2)] 35] := HS.join (F := []) (G := []) H_
          clear H_
          refine ql (.slice (some ad16) arcs.length c) (by kernel_rfl) (by kernel_rfl) ?_
          refine ql (.int .i64 v) (by kernel_rfl) (by kernel_rfl) ?_
          refine qc (f := 24) (args := #[.slice (some ad16) arcs.length c, .int .i64 v]) (by kernel_rfl) (R_call #[.slice (some ad16) arcs.length c, .int .i64 v] Try.func24 (by kernel_rfl) (by kernel_rfl) (by kernel_rfl)) ?_
          refine (ref_out _ _ arcs _ (hr.old0 HS) (by first | omega | (rw [List.length_map]; omega)) v).mono ?_
          rintro e W49 ⟨A47, c48, rfl, H_⟩
          refine ⟨_, rfl, ?_⟩
          replace HS : St W8 (owns []) W49 [row A47 ((idxs (keys false arcs) v).length) c48 (ci .i64 (idxs (keys false arcs) v)) 3 1, blk g12 [.int .i64 ((gx arcs i).1), .int .i64 ((gx arcs i).2)] 35] := HS.join (F := []) (G := [row A47 ((idxs (keys false arcs) v).length) c48 (ci .i64 (idxs (keys false arcs) v)) 3 1]) H_
          clear H_
          refine qc (f := 23) (args := #[.slice none 0 0, .slice A47 ((idxs (keys false arcs) v).length) c48]) (by kernel_rfl) (R_call #[.slice none 0 0, .slice A47 ((idxs (keys false arcs) v).length) c48] Try.func23 (by kernel_rfl) (by kernel_rfl) (by kernel_rfl)) ?_
          refine (same_eq _ _ _ _ ([]) (idxs (keys false arcs) v) _ (by first | rfl | (rw [keys_swap]; rfl) | exact (idxs_out hFF hvr).symm | exact (nexts_out hFF hvr).symm | (rw [keys_swap]; exact (idxs_out hFF hvr).symm)) (Rd_nil _ _) (Rd.row HS (i := 0) rfl) (by first | (have := idxs_le false arcs v; have := idxs_le true arcs v; omega) | (have := idxs_le false arcs v; rw [nexts_len]; omega) | (simp; done) | (have := idxs_le false (arcs.map swap) v; rw [List.length_map] at this; omega))).mono ?_
          rintro e W50 ⟨rfl, H_⟩
          refine ⟨_, rfl, ?_⟩
          replace HS : St W8 (owns []) W50 [row A47 ((idxs (keys false arcs) v).length) c48 (ci .i64 (idxs (keys false arcs) v)) 3 1, blk g12 [.int .i64 ((gx arcs i).1), .int .i64 ((gx arcs i).2)] 35] := HS.join (F := []) (G := []) H_
          clear H_
          refine ql (.bool true) (by kernel_rfl) (by kernel_rfl) ?_
          refine ql (.bool true) (by kernel_rfl) (by kernel_rfl) ?_
          refine ql (.pointer (some ⟨g, 0, none⟩)) (by kernel_rfl) (by kernel_rfl) ?_
          refine ql (.int .i64 v) (by kernel_rfl) (by kernel_rfl) ?_
          refine qc (f := 20) (args := #[.pointer (some ⟨g, 0, none⟩), .int .i64 v]) (by kernel_rfl) (R_call #[.pointer (some ⟨g, 0, none⟩), .int .i64 v] Try.func20 (by kernel_rfl) (by kernel_rfl) (by kernel_rfl)) ?_
          refine (in_no g N arcs _ (hG.below (HS.kept.below owns_nil)) v (by omega)).mono ?_
          rintro e W53 ⟨rfl, H_⟩
          refine ⟨_, rfl, ?_⟩
          replace HS : St W8 (owns []) W53 [row A47 ((idxs (keys false arcs) v).length) c48 (ci .i64 (idxs (keys false arcs) v)) 3 1, blk g12 [.int .i64 ((gx arcs i).1), .int .i64 ((gx arcs i).2)] 35] := HS.join (F := []) (G := []) H_
          clear H_
          refine ql (.slice (some ad16) arcs.length c) (by kernel_rfl) (by kernel_rfl) ?_
          refine qc (f := 25) (args := #[.slice (some ad16) arcs.length c]) (by kernel_rfl) (R_call #[.slice (some ad16) arcs.length c] Try.func25 (by kernel_rfl) (by kernel_rfl) (by kernel_rfl)) ?_
          refine (ref_turn _ _ arcs _ (hr.old0 HS) (by first | omega | (rw [List.length_map]; omega)) ).mono ?_
          rintro e W56 ⟨A54, c55, rfl, H_⟩
          refine ⟨_, rfl, ?_⟩
          replace HS : St W8 (owns []) W56 [row A54 ((arcs.map swap).length) c55 (cf arcC (arcs.map swap)) 38 2, row A47 ((idxs (keys false arcs) v).length) c48 (ci .i64 (idxs (keys false arcs) v)) 3 1, blk g12 [.int .i64 ((gx arcs i).1), .int .i64 ((gx arcs i).2)] 35] := HS.join (F := []) (G := [row A54 ((arcs.map swap).length) c55 (cf arcC (arcs.map swap)) 38 2]) H_
          clear H_
          refine ql (.int .i64 v) (by kernel_rfl) (by kernel_rfl) ?_
          refine qc (f := 24) (args := #[.slice A54 ((arcs.map swap).length) c55, .int .i64 v]) (by kernel_rfl) (R_call #[.slice A54 ((arcs.map swap).length) c55, .int .i64 v] Try.func24 (by kernel_rfl) (by kernel_rfl) (by kernel_rfl)) ?_
          refine (ref_out _ _ (arcs.map swap) _ (Rd.row HS (i := 0) rfl) (by first | omega | (rw [List.length_map]; omega)) v).mono ?_
          rintro e W59 ⟨A57, c58, rfl, H_⟩
          refine ⟨_, rfl, ?_⟩
          replace HS : St W8 (owns []) W59 [row A57 ((idxs (keys false (arcs.map swap)) v).length) c58 (ci .i64 (idxs (keys false (arcs.map swap)) v)) 3 1, row A54 ((arcs.map swap).length) c55 (cf arcC (arcs.map swap)) 38 2, row A47 ((idxs (keys false arcs) v).length) c48 (ci .i64 (idxs (keys false arcs) v)) 3 1, blk g12 [.int .i64 ((gx arcs i).1), .int .i64 ((gx arcs i).2)] 35] := HS.join (F := []) (G := [row A57 ((idxs (keys false (arcs.map swap)) v).length) c58 (ci .i64 (idxs (keys false (arcs.map swap)) v)) 3 1]) H_
          clear H_
          refine qc (f := 23) (args := #[.slice none 0 0, .slice A57 ((idxs (keys false (arcs.map swap)) v).length) c58]) (by kernel_rfl) (R_call #[.slice none 0 0, .slice A57 ((idxs (keys false (arcs.map swap)) v).length) c58] Try.func23 (by kernel_rfl) (by kernel_rfl) (by kernel_rfl)) ?_
          refine (same_eq _ _ _ _ ([]) (idxs (keys false (arcs.map swap)) v) _ (by first | rfl | (rw [keys_swap]; rfl) | exact (idxs_out hFF hvr).symm | exact (nexts_out hFF hvr).symm | (rw [keys_swap]; exact (idxs_out hFF hvr).symm)) (Rd_nil _ _) (Rd.row HS (i := 0) rfl) (by first | (have := idxs_le false arcs v; have := idxs_le true arcs v; omega) | (have := idxs_le false arcs v; rw [nexts_len]; omega) | (simp; done) | (have := idxs_le false (arcs.map swap) v; rw [List.length_map] at this; omega))).mono ?_
          rintro e W60 ⟨rfl, H_⟩
          refine ⟨_, rfl, ?_⟩
          replace HS : St W8 (owns []) W60 [row A57 ((idxs (keys false (arcs.map swap)) v).length) c58 (ci .i64 (idxs (keys false (arcs.map swap)) v)) 3 1, row A54 ((arcs.map swap).length) c55 (cf arcC (arcs.map swap)) 38 2, row A47 ((idxs (keys false arcs) v).length) c48 (ci .i64 (idxs (keys false arcs) v)) 3 1, blk g12 [.int .i64 ((gx arcs i).1), .int .i64 ((gx arcs i).2)] 35] := HS.join (F := []) (G := []) H_
          clear H_
          refine ql (.bool true) (by kernel_rfl) (by kernel_rfl) ?_
          refine ql (.bool true) (by kernel_rfl) (by kernel_rfl) ?_
          refine ql (.pointer (some ⟨g, 0, none⟩)) (by kernel_rfl) (by kernel_rfl) ?_
          refine ql (.int .i64 v) (by kernel_rfl) (by kernel_rfl) ?_
          refine qc (f := 15) (args := #[.pointer (some ⟨g, 0, none⟩), .int .i64 v]) (by kernel_rfl) (R_call #[.pointer (some ⟨g, 0, none⟩), .int .i64 v] Try.func15 (by kernel_rfl) (by kernel_rfl) (by kernel_rfl)) ?_
          refine (next_no g N arcs _ (hG.below (HS.kept.below owns_nil)) v (by omega)).mono ?_
          rintro e W63 ⟨rfl, H_⟩
          refine ⟨_, rfl, ?_⟩
          replace HS : St W8 (owns []) W63 [row A57 ((idxs (keys false (arcs.map swap)) v).length) c58 (ci .i64 (idxs (keys false (arcs.map swap)) v)) 3 1, row A54 ((arcs.map swap).length) c55 (cf arcC (arcs.map swap)) 38 2, row A47 ((idxs (keys false arcs) v).length) c48 (ci .i64 (idxs (keys false arcs) v)) 3 1, blk g12 [.int .i64 ((gx arcs i).1), .int .i64 ((gx arcs i).2)] 35] := HS.join (F := []) (G := []) H_
          clear H_
          refine ql (.slice (some ad16) arcs.length c) (by kernel_rfl) (by kernel_rfl) ?_
          refine ql (.int .i64 v) (by kernel_rfl) (by kernel_rfl) ?_
          refine qc (f := 26) (args := #[.slice (some ad16) arcs.length c, .int .i64 v]) (by kernel_rfl) (R_call #[.slice (some ad16) arcs.length c, .int .i64 v] Try.func26 (by kernel_rfl) (by kernel_rfl) (by kernel_rfl)) ?_
          refine (ref_next _ _ arcs _ (hr.old0 HS) (by first | omega | (rw [List.length_map]; omega)) v).mono ?_
          rintro e W66 ⟨A64, c65, rfl, H_⟩
          refine ⟨_, rfl, ?_⟩
          replace HS : St W8 (owns []) W66 [row A64 ((nexts arcs v).length) c65 (ci .i64 (nexts arcs v)) 3 1, row A57 ((idxs (keys false (arcs.map swap)) v).length) c58 (ci .i64 (idxs (keys false (arcs.map swap)) v)) 3 1, row A54 ((arcs.map swap).length) c55 (cf arcC (arcs.map swap)) 38 2, row A47 ((idxs (keys false arcs) v).length) c48 (ci .i64 (idxs (keys false arcs) v)) 3 1, blk g12 [.int .i64 ((gx arcs i).1), .int .i64 ((gx arcs i).2)] 35] := HS.join (F := []) (G := [row A64 ((nexts arcs v).length) c65 (ci .i64 (nexts arcs v)) 3 1]) H_
          clear H_
          refine qc (f := 23) (args := #[.slice none 0 0, .slice A64 ((nexts arcs v).length) c65]) (by kernel_rfl) (R_call #[.slice none 0 0, .slice A64 ((nexts arcs v).length) c65] Try.func23 (by kernel_rfl) (by kernel_rfl) (by kernel_rfl)) ?_
          refine (same_eq _ _ _ _ ([]) (nexts arcs v) _ (by first | rfl | (rw [keys_swap]; rfl) | exact (idxs_out hFF hvr).symm | exact (nexts_out hFF hvr).symm | (rw [keys_swap]; exact (idxs_out hFF hvr).symm)) (Rd_nil _ _) (Rd.row HS (i := 0) rfl) (by first | (have := idxs_le false arcs v; have := idxs_le true arcs v; omega) | (have := idxs_le false arcs v; rw [nexts_len]; omega) | (simp; done) | (have := idxs_le false (arcs.map swap) v; rw [List.length_map] at this; omega))).mono ?_
          rintro e W67 ⟨rfl, H_⟩
          refine ⟨_, rfl, ?_⟩
          replace HS : St W8 (owns []) W67 [row A64 ((nexts arcs v).length) c65 (ci .i64 (nexts arcs v)) 3 1, row A57 ((idxs (keys false (arcs.map swap)) v).length) c58 (ci .i64 (idxs (keys false (arcs.map swap)) v)) 3 1, row A54 ((arcs.map swap).length) c55 (cf arcC (arcs.map swap)) 38 2, row A47 ((idxs (keys false arcs) v).length) c48 (ci .i64 (idxs (keys false arcs) v)) 3 1, blk g12 [.int .i64 ((gx arcs i).1), .int .i64 ((gx arcs i).2)] 35] := HS.join (F := []) (G := []) H_
          clear H_
          refine ql (.bool true) (by kernel_rfl) (by kernel_rfl) ?_
          refine ql (.bool true) (by kernel_rfl) (by kernel_rfl) ?_
          refine qc (f := 12) (args := #[]) (by kernel_rfl) (R_call #[] Try.func12 (by kernel_rfl) (by kernel_rfl) (by kernel_rfl)) ?_
          refine (awake_calls _).mono ?_
          rintro e W68 ⟨rfl, H_⟩
          refine ⟨_, rfl, ?_⟩
          replace HS : St W8 (owns []) W68 [row A64 ((nexts arcs v).length) c65 (ci .i64 (nexts arcs v)) 3 1, row A57 ((idxs (keys false (arcs.map swap)) v).length) c58 (ci .i64 (idxs (keys false (arcs.map swap)) v)) 3 1, row A54 ((arcs.map swap).length) c55 (cf arcC (arcs.map swap)) 38 2, row A47 ((idxs (keys false arcs) v).length) c48 (ci .i64 (idxs (keys false arcs) v)) 3 1, blk g12 [.int .i64 ((gx arcs i).1), .int .i64 ((gx arcs i).2)] 35] := HS.join (F := []) (G := []) H_
          clear H_
          refine ql (.bool true) (by kernel_rfl) (by kernel_rfl) ?_
          refine ql (.bool true) (by kernel_rfl) (by kernel_rfl) ?_
          refine wpList_nil ?_
          refine x_then ?_
          refine wp_ret ?_
          refine ret_ (.bool true) (by kernel_rfl) ?_
          replace HS : St W (owns []) W68 [row A64 ((nexts arcs v).length) c65 (ci .i64 (nexts arcs v)) 3 1, row A57 ((idxs (keys false (arcs.map swap)) v).length) c58 (ci .i64 (idxs (keys false (arcs.map swap)) v)) 3 1, row A54 ((arcs.map swap).length) c55 (cf arcC (arcs.map swap)) 38 2, row A47 ((idxs (keys false arcs) v).length) c48 (ci .i64 (idxs (keys false arcs) v)) 3 1, blk g12 [.int .i64 ((gx arcs i).1), .int .i64 ((gx arcs i).2)] 35] := HB9.join (F := []) (G := [row A64 ((nexts arcs v).length) c65 (ci .i64 (nexts arcs v)) 3 1, row A57 ((idxs (keys false (arcs.map swap)) v).length) c58 (ci .i64 (idxs (keys false (arcs.map swap)) v)) 3 1, row A54 ((arcs.map swap).length) c55 (cf arcC (arcs.map swap)) 38 2, row A47 ((idxs (keys false arcs) v).length) c48 (ci .i64 (idxs (keys false arcs) v)) 3 1, blk g12 [.int .i64 ((gx arcs i).1), .int .i64 ((gx arcs i).2)] 35]) HS
          exact ⟨rfl, HS.tail (F := [row A64 ((nexts arcs v).length) c65 (ci .i64 (nexts arcs v)) 3 1, row A57 ((idxs (keys false (arcs.map swap)) v).length) c58 (ci .i64 (idxs (keys false (arcs.map swap)) v)) 3 1, row A54 ((arcs.map swap).length) c55 (cf arcC (arcs.map swap)) 38 2, row A47 ((idxs (keys false arcs) v).length) c48 (ci .i64 (idxs (keys false arcs) v)) 3 1, blk g12 [.int .i64 ((gx arcs i).1), .int .i64 ((gx arcs i).2)] 35])⟩
      · refine ⟨_, rfl, ?_⟩
        replace HS : St W8 (owns []) W11 [] := HS.join (F := []) (G := []) H_
        clear H_
        refine ql (.tuple #[.agg #[.int .i64 0, .int .i64 0], .bool false]) (by kernel_rfl) (by kernel_rfl) ?_
        refine ql (.agg #[.int .i64 0, .int .i64 0]) (by kernel_rfl) (by kernel_rfl) ?_
        refine ql (.bool false) (by kernel_rfl) (by kernel_rfl) ?_
        refine kb HS [.int .i64 0, .int .i64 0] 35 (fun g => .pointer (some ⟨g, 0, none⟩)) (by kernel_rfl) (by kernel_rfl) ?_
        intro g69 W70 H_
        replace HS : St W8 (owns []) W70 [blk g69 [.int .i64 0, .int .i64 0] 35] := H_
        clear H_
        refine ks (v := .agg #[.int .i64 0, .int .i64 0]) HS 0 rfl (0) [.int .i64 0, .int .i64 0] (by kernel_rfl) (by kernel_rfl) (by kernel_rfl) (by kernel_rfl) (by kernel_rfl) (one_ (by kernel_rfl)) (Nat.le_of_ble_eq_true rfl) rfl ?_
        intro W71 H_
        replace HS : St W8 (owns []) W71 [blk g69 [.int .i64 0, .int .i64 0] 35] := H_
        clear H_
        refine ql (.bool false) (by kernel_rfl) (by kernel_rfl) ?_
        refine wpList_nil ?_
        refine x_then ?_
        refine wp_seq ?_
        refine wp_seq ?_
        refine rg_still HS 46 (by kernel_rfl) (by kernel_rfl) ?_
        intro W72 H_ HK_
        simp only [List.take_succ_cons, List.take_zero, List.drop_succ_cons, List.drop_zero]
        replace HS : St W8 (owns []) W72 [blk g69 [.int .i64 0, .int .i64 0] 35] := H_
        clear H_
        clear HK_
        refine qs (.bool false) (by kernel_rfl) (by kernel_rfl) ?_
        refine qs (.int .i64 i) (by kernel_rfl) (by kernel_rfl) ?_
        by_cases hc73 : i ≥ (0 : Int)
        · skip
          refine qs (.bool true) (by kernel_rfl) (R_bool (p := i ≥ (0 : Int)) (by kernel_rfl) (hc73)) ?_
          refine qs (.bool true) (by kernel_rfl) (by kernel_rfl) ?_
          refine qs (.int .i64 i) (by kernel_rfl) (by kernel_rfl) ?_
          refine qs (.slice A arcs.length c) (by kernel_rfl) (by kernel_rfl) ?_
          refine qs (.int .i64 (arcs.length : Int)) (by kernel_rfl) (by kernel_rfl) ?_
          refine qs (.bool false) (by kernel_rfl) (R_nbool (p := i < (arcs.length : Int)) (by kernel_rfl) (by omega)) ?_
          refine qs (.bool false) (by kernel_rfl) (by kernel_rfl) ?_
          refine qs (.bool false) (by kernel_rfl) (by kernel_rfl) ?_
          refine qs (.bool false) (by kernel_rfl) (by kernel_rfl) ?_
          refine qs (.bool false) (by kernel_rfl) (by kernel_rfl) ?_
          refine qs (.bool false) (by kernel_rfl) (by kernel_rfl) ?_
          refine qsn (by kernel_rfl) ?_
          refine qsn (by kernel_rfl) ?_
          refine qsn (by kernel_rfl) ?_
          refine qsn (by kernel_rfl) ?_
          refine qsn (by kernel_rfl) ?_
          refine qsn (by kernel_rfl) ?_
          refine qsn (by kernel_rfl) ?_
          refine qsn (by kernel_rfl) ?_
          refine qsn (by kernel_rfl) ?_
          refine qsn (by kernel_rfl) ?_
          refine qsn (by kernel_rfl) ?_
          refine qsn (by kernel_rfl) ?_
          refine qsn (by kernel_rfl) ?_
          refine qsn (by kernel_rfl) ?_
          refine qsn (by kernel_rfl) ?_
          refine qsn (by kernel_rfl) ?_
          refine qsn (by kernel_rfl) ?_
          refine qsn (by kernel_rfl) ?_
          refine qs (.bool false) (by kernel_rfl) (by kernel_rfl) ?_
          refine qs (.bool false) (by kernel_rfl) (by kernel_rfl) ?_
          refine qs (.bool false) (by kernel_rfl) (by kernel_rfl) ?_
          refine qs (.bool false) (by kernel_rfl) (by kernel_rfl) ?_
          refine qs (.bool true) (by kernel_rfl) (by kernel_rfl) ?_
          refine qs (.bool true) (by kernel_rfl) (by kernel_rfl) ?_
          refine qs (.pointer (some ⟨g69, 0, none⟩)) (by kernel_rfl) (by kernel_rfl) ?_
          refine qs (.int .i64 0) (by kernel_rfl) (R_load (p := ⟨g69, 0, none⟩) (by kernel_rfl) (by kernel_rfl) (by kernel_rfl) (HS.cell (i := 0) (j := 0) rfl rfl)) ?_
          refine qs (.bool false) (by kernel_rfl) (R_beq (b := ((0 : Int) != 0)) (by kernel_rfl) (by decide)) ?_
          refine qs (.bool false) (by kernel_rfl) (by kernel_rfl) ?_
          refine qs (.pointer (some ⟨g69, 1, none⟩)) (by kernel_rfl) (by kernel_rfl) ?_
          refine qs (.int .i64 0) (by kernel_rfl) (R_load (p := ⟨g69, 1, none⟩) (by kernel_rfl) (by kernel_rfl) (by kernel_rfl) (HS.cell (i := 0) (j := 1) rfl rfl)) ?_
          refine qs (.bool false) (by kernel_rfl) (R_beq (b := ((0 : Int) != 0)) (by kernel_rfl) (by decide)) ?_
          refine qs (.bool false) (by kernel_rfl) (by kernel_rfl) ?_
          refine qs (.bool false) (by kernel_rfl) (by kernel_rfl) ?_
          refine wpStill_nil ?_
          refine ql (.bool false) (by kernel_rfl) (by kernel_rfl) ?_
          refine wpList_nil ?_
          refine x_then ?_
          refine wp_cond_false (by kernel_rfl) ?_
          refine wp_skip ?_
          refine x_then ?_
          refine wp_seq ?_
          refine wp_region_lit ?_
          refine ql (.pointer (some ⟨g, 0, none⟩)) (by kernel_rfl) (by kernel_rfl) ?_
          refine qc (f := 17) (args := #[.pointer (some ⟨g, 0, none⟩)]) (by kernel_rfl) (R_call #[.pointer (some ⟨g, 0, none⟩)] Try.func17 (by kernel_rfl) (by kernel_rfl) (by kernel_rfl)) ?_
          refine (nodessome g N arcs _ (hG.below (HS.kept.below owns_nil))).mono ?_
          rintro e W74 ⟨rfl, H_⟩
          refine ⟨_, rfl, ?_⟩
          replace HS : St W8 (owns []) W74 [blk g69 [.int .i64 0, .int .i64 0] 35] := HS.join (F := []) (G := []) H_
          clear H_
          refine ql (.int .i64 (N : Int)) (by kernel_rfl) (by kernel_rfl) ?_
          refine ql (.bool true) (by kernel_rfl) (R_beq (b := ((N : Int) == (N : Int))) (by kernel_rfl) (beq_t (by omega))) ?_
          refine ql (.bool true) (by kernel_rfl) (by kernel_rfl) ?_
          refine ql (.pointer (some ⟨g, 0, none⟩)) (by kernel_rfl) (by kernel_rfl) ?_
          refine qc (f := 18) (args := #[.pointer (some ⟨g, 0, none⟩)]) (by kernel_rfl) (R_call #[.pointer (some ⟨g, 0, none⟩)] Try.func18 (by kernel_rfl) (by kernel_rfl) (by kernel_rfl)) ?_
          refine (arcs_some g N arcs _ (hG.below (HS.kept.below owns_nil))).mono ?_
          rintro e W75 ⟨rfl, H_⟩
          refine ⟨_, rfl, ?_⟩
          replace HS : St W8 (owns []) W75 [blk g69 [.int .i64 0, .int .i64 0] 35] := HS.join (F := []) (G := []) H_
          clear H_
          refine ql (.slice A arcs.length c) (by kernel_rfl) (by kernel_rfl) ?_
          refine ql (.int .i64 (arcs.length : Int)) (by kernel_rfl) (by kernel_rfl) ?_
          refine ql (.bool true) (by kernel_rfl) (R_beq (b := ((arcs.length : Int) == (arcs.length : Int))) (by kernel_rfl) (beq_t (by omega))) ?_
          refine ql (.bool true) (by kernel_rfl) (by kernel_rfl) ?_
          refine ql (.bool true) (by kernel_rfl) (by kernel_rfl) ?_
          refine ql (.pointer (some ⟨g, 0, none⟩)) (by kernel_rfl) (by kernel_rfl) ?_
          refine ql (.int .i64 v) (by kernel_rfl) (by kernel_rfl) ?_
          refine qc (f := 19) (args := #[.pointer (some ⟨g, 0, none⟩), .int .i64 v]) (by kernel_rfl) (R_call #[.pointer (some ⟨g, 0, none⟩), .int .i64 v] Try.func19 (by kernel_rfl) (by kernel_rfl) (by kernel_rfl)) ?_
          by_cases hvr : 0 ≤ v ∧ v < (N : Int)
          · skip
            refine (out_yes g N arcs _ (hG.below (HS.kept.below owns_nil)) v (by omega) (by omega)).mono ?_
            rintro e W78 ⟨A76, c77, rfl, H_⟩
            refine ⟨_, rfl, ?_⟩
            replace HS : St W8 (owns []) W78 [row A76 ((idxs (keys false arcs) v).length) c77 (ci .i64 (idxs (keys false arcs) v)) 3 1, blk g69 [.int .i64 0, .int .i64 0] 35] := HS.join (F := []) (G := [row A76 ((idxs (keys false arcs) v).length) c77 (ci .i64 (idxs (keys false arcs) v)) 3 1]) H_
            clear H_
            refine ql (.slice A arcs.length c) (by kernel_rfl) (by kernel_rfl) ?_
            refine ql (.int .i64 v) (by kernel_rfl) (by kernel_rfl) ?_
            refine qc (f := 24) (args := #[.slice A arcs.length c, .int .i64 v]) (by kernel_rfl) (R_call #[.slice A arcs.length c, .int .i64 v] Try.func24 (by kernel_rfl) (by kernel_rfl) (by kernel_rfl)) ?_
            refine (ref_out _ _ arcs _ (hr.old0 HS) (by first | omega | (rw [List.length_map]; omega)) v).mono ?_
            rintro e W81 ⟨A79, c80, rfl, H_⟩
            refine ⟨_, rfl, ?_⟩
            replace HS : St W8 (owns []) W81 [row A79 ((idxs (keys false arcs) v).length) c80 (ci .i64 (idxs (keys false arcs) v)) 3 1, row A76 ((idxs (keys false arcs) v).length) c77 (ci .i64 (idxs (keys false arcs) v)) 3 1, blk g69 [.int .i64 0, .int .i64 0] 35] := HS.join (F := []) (G := [row A79 ((idxs (keys false arcs) v).length) c80 (ci .i64 (idxs (keys false arcs) v)) 3 1]) H_
            clear H_
            refine qc (f := 23) (args := #[.slice A76 ((idxs (keys false arcs) v).length) c77, .slice A79 ((idxs (keys false arcs) v).length) c80]) (by kernel_rfl) (R_call #[.slice A76 ((idxs (keys false arcs) v).length) c77, .slice A79 ((idxs (keys false arcs) v).length) c80] Try.func23 (by kernel_rfl) (by kernel_rfl) (by kernel_rfl)) ?_
            refine (same_eq _ _ _ _ (idxs (keys false arcs) v) (idxs (keys false arcs) v) _ rfl (Rd.row HS (i := 1) rfl) (Rd.row HS (i := 0) rfl) (by first | (have := idxs_le false arcs v; have := idxs_le true arcs v; omega) | (have := idxs_le false arcs v; rw [nexts_len]; omega) | (simp; done) | (have := idxs_le false (arcs.map swap) v; rw [List.length_map] at this; omega))).mono ?_
            rintro e W82 ⟨rfl, H_⟩
            refine ⟨_, rfl, ?_⟩
            replace HS : St W8 (owns []) W82 [row A79 ((idxs (keys false arcs) v).length) c80 (ci .i64 (idxs (keys false arcs) v)) 3 1, row A76 ((idxs (keys false arcs) v).length) c77 (ci .i64 (idxs (keys false arcs) v)) 3 1, blk g69 [.int .i64 0, .int .i64 0] 35] := HS.join (F := []) (G := []) H_
            clear H_
            refine ql (.bool true) (by kernel_rfl) (by kernel_rfl) ?_
            refine ql (.bool true) (by kernel_rfl) (by kernel_rfl) ?_
            refine ql (.pointer (some ⟨g, 0, none⟩)) (by kernel_rfl) (by kernel_rfl) ?_
            refine ql (.int .i64 v) (by kernel_rfl) (by kernel_rfl) ?_
            refine qc (f := 20) (args := #[.pointer (some ⟨g, 0, none⟩), .int .i64 v]) (by kernel_rfl) (R_call #[.pointer (some ⟨g, 0, none⟩), .int .i64 v] Try.func20 (by kernel_rfl) (by kernel_rfl) (by kernel_rfl)) ?_
            refine (in_yes g N arcs _ (hG.below (HS.kept.below owns_nil)) v (by omega) (by omega)).mono ?_
            rintro e W85 ⟨A83, c84, rfl, H_⟩
            refine ⟨_, rfl, ?_⟩
            replace HS : St W8 (owns []) W85 [row A83 ((idxs (keys true arcs) v).length) c84 (ci .i64 (idxs (keys true arcs) v)) 3 1, row A79 ((idxs (keys false arcs) v).length) c80 (ci .i64 (idxs (keys false arcs) v)) 3 1, row A76 ((idxs (keys false arcs) v).length) c77 (ci .i64 (idxs (keys false arcs) v)) 3 1, blk g69 [.int .i64 0, .int .i64 0] 35] := HS.join (F := []) (G := [row A83 ((idxs (keys true arcs) v).length) c84 (ci .i64 (idxs (keys true arcs) v)) 3 1]) H_
            clear H_
            refine ql (.slice A arcs.length c) (by kernel_rfl) (by kernel_rfl) ?_
            refine qc (f := 25) (args := #[.slice A arcs.length c]) (by kernel_rfl) (R_call #[.slice A arcs.length c] Try.func25 (by kernel_rfl) (by kernel_rfl) (by kernel_rfl)) ?_
            refine (ref_turn _ _ arcs _ (hr.old0 HS) (by first | omega | (rw [List.length_map]; omega)) ).mono ?_
            rintro e W88 ⟨A86, c87, rfl, H_⟩
            refine ⟨_, rfl, ?_⟩
            replace HS : St W8 (owns []) W88 [row A86 ((arcs.map swap).length) c87 (cf arcC (arcs.map swap)) 38 2, row A83 ((idxs (keys true arcs) v).length) c84 (ci .i64 (idxs (keys true arcs) v)) 3 1, row A79 ((idxs (keys false arcs) v).length) c80 (ci .i64 (idxs (keys false arcs) v)) 3 1, row A76 ((idxs (keys false arcs) v).length) c77 (ci .i64 (idxs (keys false arcs) v)) 3 1, blk g69 [.int .i64 0, .int .i64 0] 35] := HS.join (F := []) (G := [row A86 ((arcs.map swap).length) c87 (cf arcC (arcs.map swap)) 38 2]) H_
            clear H_
            refine ql (.int .i64 v) (by kernel_rfl) (by kernel_rfl) ?_
            refine qc (f := 24) (args := #[.slice A86 ((arcs.map swap).length) c87, .int .i64 v]) (by kernel_rfl) (R_call #[.slice A86 ((arcs.map swap).length) c87, .int .i64 v] Try.func24 (by kernel_rfl) (by kernel_rfl) (by kernel_rfl)) ?_
            refine (ref_out _ _ (arcs.map swap) _ (Rd.row HS (i := 0) rfl) (by first | omega | (rw [List.length_map]; omega)) v).mono ?_
            rintro e W91 ⟨A89, c90, rfl, H_⟩
            refine ⟨_, rfl, ?_⟩
            replace HS : St W8 (owns []) W91 [row A89 ((idxs (keys false (arcs.map swap)) v).length) c90 (ci .i64 (idxs (keys false (arcs.map swap)) v)) 3 1, row A86 ((arcs.map swap).length) c87 (cf arcC (arcs.map swap)) 38 2, row A83 ((idxs (keys true arcs) v).length) c84 (ci .i64 (idxs (keys true arcs) v)) 3 1, row A79 ((idxs (keys false arcs) v).length) c80 (ci .i64 (idxs (keys false arcs) v)) 3 1, row A76 ((idxs (keys false arcs) v).length) c77 (ci .i64 (idxs (keys false arcs) v)) 3 1, blk g69 [.int .i64 0, .int .i64 0] 35] := HS.join (F := []) (G := [row A89 ((idxs (keys false (arcs.map swap)) v).length) c90 (ci .i64 (idxs (keys false (arcs.map swap)) v)) 3 1]) H_
            clear H_
            refine qc (f := 23) (args := #[.slice A83 ((idxs (keys true arcs) v).length) c84, .slice A89 ((idxs (keys false (arcs.map swap)) v).length) c90]) (by kernel_rfl) (R_call #[.slice A83 ((idxs (keys true arcs) v).length) c84, .slice A89 ((idxs (keys false (arcs.map swap)) v).length) c90] Try.func23 (by kernel_rfl) (by kernel_rfl) (by kernel_rfl)) ?_
            refine (same_eq _ _ _ _ (idxs (keys true arcs) v) (idxs (keys false (arcs.map swap)) v) _ (by first | rfl | (rw [keys_swap]; rfl) | exact (idxs_out hFF hvr).symm | exact (nexts_out hFF hvr).symm | (rw [keys_swap]; exact (idxs_out hFF hvr).symm)) (Rd.row HS (i := 2) rfl) (Rd.row HS (i := 0) rfl) (by first | (have := idxs_le false arcs v; have := idxs_le true arcs v; omega) | (have := idxs_le false arcs v; rw [nexts_len]; omega) | (simp; done) | (have := idxs_le false (arcs.map swap) v; rw [List.length_map] at this; omega))).mono ?_
            rintro e W92 ⟨rfl, H_⟩
            refine ⟨_, rfl, ?_⟩
            replace HS : St W8 (owns []) W92 [row A89 ((idxs (keys false (arcs.map swap)) v).length) c90 (ci .i64 (idxs (keys false (arcs.map swap)) v)) 3 1, row A86 ((arcs.map swap).length) c87 (cf arcC (arcs.map swap)) 38 2, row A83 ((idxs (keys true arcs) v).length) c84 (ci .i64 (idxs (keys true arcs) v)) 3 1, row A79 ((idxs (keys false arcs) v).length) c80 (ci .i64 (idxs (keys false arcs) v)) 3 1, row A76 ((idxs (keys false arcs) v).length) c77 (ci .i64 (idxs (keys false arcs) v)) 3 1, blk g69 [.int .i64 0, .int .i64 0] 35] := HS.join (F := []) (G := []) H_
            clear H_
            refine ql (.bool true) (by kernel_rfl) (by kernel_rfl) ?_
            refine ql (.bool true) (by kernel_rfl) (by kernel_rfl) ?_
            refine ql (.pointer (some ⟨g, 0, none⟩)) (by kernel_rfl) (by kernel_rfl) ?_
            refine ql (.int .i64 v) (by kernel_rfl) (by kernel_rfl) ?_
            refine qc (f := 15) (args := #[.pointer (some ⟨g, 0, none⟩), .int .i64 v]) (by kernel_rfl) (R_call #[.pointer (some ⟨g, 0, none⟩), .int .i64 v] Try.func15 (by kernel_rfl) (by kernel_rfl) (by kernel_rfl)) ?_
            refine (next_yes g N arcs _ (hG.below (HS.kept.below owns_nil)) v (by omega) (by omega)).mono ?_
            rintro e W95 ⟨A93, c94, rfl, H_⟩
            refine ⟨_, rfl, ?_⟩
            replace HS : St W8 (owns []) W95 [row A93 ((nexts arcs v).length) c94 (ci .i64 (nexts arcs v)) 3 1, row A89 ((idxs (keys false (arcs.map swap)) v).length) c90 (ci .i64 (idxs (keys false (arcs.map swap)) v)) 3 1, row A86 ((arcs.map swap).length) c87 (cf arcC (arcs.map swap)) 38 2, row A83 ((idxs (keys true arcs) v).length) c84 (ci .i64 (idxs (keys true arcs) v)) 3 1, row A79 ((idxs (keys false arcs) v).length) c80 (ci .i64 (idxs (keys false arcs) v)) 3 1, row A76 ((idxs (keys false arcs) v).length) c77 (ci .i64 (idxs (keys false arcs) v)) 3 1, blk g69 [.int .i64 0, .int .i64 0] 35] := HS.join (F := []) (G := [row A93 ((nexts arcs v).length) c94 (ci .i64 (nexts arcs v)) 3 1]) H_
            clear H_
            refine ql (.slice A arcs.length c) (by kernel_rfl) (by kernel_rfl) ?_
            refine ql (.int .i64 v) (by kernel_rfl) (by kernel_rfl) ?_
            refine qc (f := 26) (args := #[.slice A arcs.length c, .int .i64 v]) (by kernel_rfl) (R_call #[.slice A arcs.length c, .int .i64 v] Try.func26 (by kernel_rfl) (by kernel_rfl) (by kernel_rfl)) ?_
            refine (ref_next _ _ arcs _ (hr.old0 HS) (by first | omega | (rw [List.length_map]; omega)) v).mono ?_
            rintro e W98 ⟨A96, c97, rfl, H_⟩
            refine ⟨_, rfl, ?_⟩
            replace HS : St W8 (owns []) W98 [row A96 ((nexts arcs v).length) c97 (ci .i64 (nexts arcs v)) 3 1, row A93 ((nexts arcs v).length) c94 (ci .i64 (nexts arcs v)) 3 1, row A89 ((idxs (keys false (arcs.map swap)) v).length) c90 (ci .i64 (idxs (keys false (arcs.map swap)) v)) 3 1, row A86 ((arcs.map swap).length) c87 (cf arcC (arcs.map swap)) 38 2, row A83 ((idxs (keys true arcs) v).length) c84 (ci .i64 (idxs (keys true arcs) v)) 3 1, row A79 ((idxs (keys false arcs) v).length) c80 (ci .i64 (idxs (keys false arcs) v)) 3 1, row A76 ((idxs (keys false arcs) v).length) c77 (ci .i64 (idxs (keys false arcs) v)) 3 1, blk g69 [.int .i64 0, .int .i64 0] 35] := HS.join (F := []) (G := [row A96 ((nexts arcs v).length) c97 (ci .i64 (nexts arcs v)) 3 1]) H_
            clear H_
            refine qc (f := 23) (args := #[.slice A93 ((nexts arcs v).length) c94, .slice A96 ((nexts arcs v).length) c97]) (by kernel_rfl) (R_call #[.slice A93 ((nexts arcs v).length) c94, .slice A96 ((nexts arcs v).length) c97] Try.func23 (by kernel_rfl) (by kernel_rfl) (by kernel_rfl)) ?_
            refine (same_eq _ _ _ _ (nexts arcs v) (nexts arcs v) _ rfl (Rd.row HS (i := 1) rfl) (Rd.row HS (i := 0) rfl) (by first | (have := idxs_le false arcs v; have := idxs_le true arcs v; omega) | (have := idxs_le false arcs v; rw [nexts_len]; omega) | (simp; done) | (have := idxs_le false (arcs.map swap) v; rw [List.length_map] at this; omega))).mono ?_
            rintro e W99 ⟨rfl, H_⟩
            refine ⟨_, rfl, ?_⟩
            replace HS : St W8 (owns []) W99 [row A96 ((nexts arcs v).length) c97 (ci .i64 (nexts arcs v)) 3 1, row A93 ((nexts arcs v).length) c94 (ci .i64 (nexts arcs v)) 3 1, row A89 ((idxs (keys false (arcs.map swap)) v).length) c90 (ci .i64 (idxs (keys false (arcs.map swap)) v)) 3 1, row A86 ((arcs.map swap).length) c87 (cf arcC (arcs.map swap)) 38 2, row A83 ((idxs (keys true arcs) v).length) c84 (ci .i64 (idxs (keys true arcs) v)) 3 1, row A79 ((idxs (keys false arcs) v).length) c80 (ci .i64 (idxs (keys false arcs) v)) 3 1, row A76 ((idxs (keys false arcs) v).length) c77 (ci .i64 (idxs (keys false arcs) v)) 3 1, blk g69 [.int .i64 0, .int .i64 0] 35] := HS.join (F := []) (G := []) H_
            clear H_
            refine ql (.bool true) (by kernel_rfl) (by kernel_rfl) ?_
            refine ql (.bool true) (by kernel_rfl) (by kernel_rfl) ?_
            refine qc (f := 12) (args := #[]) (by kernel_rfl) (R_call #[] Try.func12 (by kernel_rfl) (by kernel_rfl) (by kernel_rfl)) ?_
            refine (awake_calls _).mono ?_
            rintro e W100 ⟨rfl, H_⟩
            refine ⟨_, rfl, ?_⟩
            replace HS : St W8 (owns []) W100 [row A96 ((nexts arcs v).length) c97 (ci .i64 (nexts arcs v)) 3 1, row A93 ((nexts arcs v).length) c94 (ci .i64 (nexts arcs v)) 3 1, row A89 ((idxs (keys false (arcs.map swap)) v).length) c90 (ci .i64 (idxs (keys false (arcs.map swap)) v)) 3 1, row A86 ((arcs.map swap).length) c87 (cf arcC (arcs.map swap)) 38 2, row A83 ((idxs (keys true arcs) v).length) c84 (ci .i64 (idxs (keys true arcs) v)) 3 1, row A79 ((idxs (keys false arcs) v).length) c80 (ci .i64 (idxs (keys false arcs) v)) 3 1, row A76 ((idxs (keys false arcs) v).length) c77 (ci .i64 (idxs (keys false arcs) v)) 3 1, blk g69 [.int .i64 0, .int .i64 0] 35] := HS.join (F := []) (G := []) H_
            clear H_
            refine ql (.bool true) (by kernel_rfl) (by kernel_rfl) ?_
            refine ql (.bool true) (by kernel_rfl) (by kernel_rfl) ?_
            refine wpList_nil ?_
            refine x_then ?_
            refine wp_ret ?_
            refine ret_ (.bool true) (by kernel_rfl) ?_
            replace HS : St W (owns []) W100 [row A96 ((nexts arcs v).length) c97 (ci .i64 (nexts arcs v)) 3 1, row A93 ((nexts arcs v).length) c94 (ci .i64 (nexts arcs v)) 3 1, row A89 ((idxs (keys false (arcs.map swap)) v).length) c90 (ci .i64 (idxs (keys false (arcs.map swap)) v)) 3 1, row A86 ((arcs.map swap).length) c87 (cf arcC (arcs.map swap)) 38 2, row A83 ((idxs (keys true arcs) v).length) c84 (ci .i64 (idxs (keys true arcs) v)) 3 1, row A79 ((idxs (keys false arcs) v).length) c80 (ci .i64 (idxs (keys false arcs) v)) 3 1, row A76 ((idxs (keys false arcs) v).length) c77 (ci .i64 (idxs (keys false arcs) v)) 3 1, blk g69 [.int .i64 0, .int .i64 0] 35] := HB9.join (F := []) (G := [row A96 ((nexts arcs v).length) c97 (ci .i64 (nexts arcs v)) 3 1, row A93 ((nexts arcs v).length) c94 (ci .i64 (nexts arcs v)) 3 1, row A89 ((idxs (keys false (arcs.map swap)) v).length) c90 (ci .i64 (idxs (keys false (arcs.map swap)) v)) 3 1, row A86 ((arcs.map swap).length) c87 (cf arcC (arcs.map swap)) 38 2, row A83 ((idxs (keys true arcs) v).length) c84 (ci .i64 (idxs (keys true arcs) v)) 3 1, row A79 ((idxs (keys false arcs) v).length) c80 (ci .i64 (idxs (keys false arcs) v)) 3 1, row A76 ((idxs (keys false arcs) v).length) c77 (ci .i64 (idxs (keys false arcs) v)) 3 1, blk g69 [.int .i64 0, .int .i64 0] 35]) HS
            exact ⟨rfl, HS.tail (F := [row A96 ((nexts arcs v).length) c97 (ci .i64 (nexts arcs v)) 3 1, row A93 ((nexts arcs v).length) c94 (ci .i64 (nexts arcs v)) 3 1, row A89 ((idxs (keys false (arcs.map swap)) v).length) c90 (ci .i64 (idxs (keys false (arcs.map swap)) v)) 3 1, row A86 ((arcs.map swap).length) c87 (cf arcC (arcs.map swap)) 38 2, row A83 ((idxs (keys true arcs) v).length) c84 (ci .i64 (idxs (keys true arcs) v)) 3 1, row A79 ((idxs (keys false arcs) v).length) c80 (ci .i64 (idxs (keys false arcs) v)) 3 1, row A76 ((idxs (keys false arcs) v).length) c77 (ci .i64 (idxs (keys false arcs) v)) 3 1, blk g69 [.int .i64 0, .int .i64 0] 35])⟩
          · skip
            refine (out_no g N arcs _ (hG.below (HS.kept.below owns_nil)) v (by omega)).mono ?_
            rintro e W103 ⟨rfl, H_⟩
            refine ⟨_, rfl, ?_⟩
            replace HS : St W8 (owns []) W103 [blk g69 [.int .i64 0, .int .i64 0] 35] := HS.join (F := []) (G := []) H_
            clear H_
            refine ql (.slice A arcs.length c) (by kernel_rfl) (by kernel_rfl) ?_
            refine ql (.int .i64 v) (by kernel_rfl) (by kernel_rfl) ?_
            refine qc (f := 24) (args := #[.slice A arcs.length c, .int .i64 v]) (by kernel_rfl) (R_call #[.slice A arcs.length c, .int .i64 v] Try.func24 (by kernel_rfl) (by kernel_rfl) (by kernel_rfl)) ?_
            refine (ref_out _ _ arcs _ (hr.old0 HS) (by first | omega | (rw [List.length_map]; omega)) v).mono ?_
            rintro e W106 ⟨A104, c105, rfl, H_⟩
            refine ⟨_, rfl, ?_⟩
            replace HS : St W8 (owns []) W106 [row A104 ((idxs (keys false arcs) v).length) c105 (ci .i64 (idxs (keys false arcs) v)) 3 1, blk g69 [.int .i64 0, .int .i64 0] 35] := HS.join (F := []) (G := [row A104 ((idxs (keys false arcs) v).length) c105 (ci .i64 (idxs (keys false arcs) v)) 3 1]) H_
            clear H_
            refine qc (f := 23) (args := #[.slice none 0 0, .slice A104 ((idxs (keys false arcs) v).length) c105]) (by kernel_rfl) (R_call #[.slice none 0 0, .slice A104 ((idxs (keys false arcs) v).length) c105] Try.func23 (by kernel_rfl) (by kernel_rfl) (by kernel_rfl)) ?_
            refine (same_eq _ _ _ _ ([]) (idxs (keys false arcs) v) _ (by first | rfl | (rw [keys_swap]; rfl) | exact (idxs_out hFF hvr).symm | exact (nexts_out hFF hvr).symm | (rw [keys_swap]; exact (idxs_out hFF hvr).symm)) (Rd_nil _ _) (Rd.row HS (i := 0) rfl) (by first | (have := idxs_le false arcs v; have := idxs_le true arcs v; omega) | (have := idxs_le false arcs v; rw [nexts_len]; omega) | (simp; done) | (have := idxs_le false (arcs.map swap) v; rw [List.length_map] at this; omega))).mono ?_
            rintro e W107 ⟨rfl, H_⟩
            refine ⟨_, rfl, ?_⟩
            replace HS : St W8 (owns []) W107 [row A104 ((idxs (keys false arcs) v).length) c105 (ci .i64 (idxs (keys false arcs) v)) 3 1, blk g69 [.int .i64 0, .int .i64 0] 35] := HS.join (F := []) (G := []) H_
            clear H_
            refine ql (.bool true) (by kernel_rfl) (by kernel_rfl) ?_
            refine ql (.bool true) (by kernel_rfl) (by kernel_rfl) ?_
            refine ql (.pointer (some ⟨g, 0, none⟩)) (by kernel_rfl) (by kernel_rfl) ?_
            refine ql (.int .i64 v) (by kernel_rfl) (by kernel_rfl) ?_
            refine qc (f := 20) (args := #[.pointer (some ⟨g, 0, none⟩), .int .i64 v]) (by kernel_rfl) (R_call #[.pointer (some ⟨g, 0, none⟩), .int .i64 v] Try.func20 (by kernel_rfl) (by kernel_rfl) (by kernel_rfl)) ?_
            refine (in_no g N arcs _ (hG.below (HS.kept.below owns_nil)) v (by omega)).mono ?_
            rintro e W110 ⟨rfl, H_⟩
            refine ⟨_, rfl, ?_⟩
            replace HS : St W8 (owns []) W110 [row A104 ((idxs (keys false arcs) v).length) c105 (ci .i64 (idxs (keys false arcs) v)) 3 1, blk g69 [.int .i64 0, .int .i64 0] 35] := HS.join (F := []) (G := []) H_
            clear H_
            refine ql (.slice A arcs.length c) (by kernel_rfl) (by kernel_rfl) ?_
            refine qc (f := 25) (args := #[.slice A arcs.length c]) (by kernel_rfl) (R_call #[.slice A arcs.length c] Try.func25 (by kernel_rfl) (by kernel_rfl) (by kernel_rfl)) ?_
            refine (ref_turn _ _ arcs _ (hr.old0 HS) (by first | omega | (rw [List.length_map]; omega)) ).mono ?_
            rintro e W113 ⟨A111, c112, rfl, H_⟩
            refine ⟨_, rfl, ?_⟩
            replace HS : St W8 (owns []) W113 [row A111 ((arcs.map swap).length) c112 (cf arcC (arcs.map swap)) 38 2, row A104 ((idxs (keys false arcs) v).length) c105 (ci .i64 (idxs (keys false arcs) v)) 3 1, blk g69 [.int .i64 0, .int .i64 0] 35] := HS.join (F := []) (G := [row A111 ((arcs.map swap).length) c112 (cf arcC (arcs.map swap)) 38 2]) H_
            clear H_
            refine ql (.int .i64 v) (by kernel_rfl) (by kernel_rfl) ?_
            refine qc (f := 24) (args := #[.slice A111 ((arcs.map swap).length) c112, .int .i64 v]) (by kernel_rfl) (R_call #[.slice A111 ((arcs.map swap).length) c112, .int .i64 v] Try.func24 (by kernel_rfl) (by kernel_rfl) (by kernel_rfl)) ?_
            refine (ref_out _ _ (arcs.map swap) _ (Rd.row HS (i := 0) rfl) (by first | omega | (rw [List.length_map]; omega)) v).mono ?_
            rintro e W116 ⟨A114, c115, rfl, H_⟩
            refine ⟨_, rfl, ?_⟩
            replace HS : St W8 (owns []) W116 [row A114 ((idxs (keys false (arcs.map swap)) v).length) c115 (ci .i64 (idxs (keys false (arcs.map swap)) v)) 3 1, row A111 ((arcs.map swap).length) c112 (cf arcC (arcs.map swap)) 38 2, row A104 ((idxs (keys false arcs) v).length) c105 (ci .i64 (idxs (keys false arcs) v)) 3 1, blk g69 [.int .i64 0, .int .i64 0] 35] := HS.join (F := []) (G := [row A114 ((idxs (keys false (arcs.map swap)) v).length) c115 (ci .i64 (idxs (keys false (arcs.map swap)) v)) 3 1]) H_
            clear H_
            refine qc (f := 23) (args := #[.slice none 0 0, .slice A114 ((idxs (keys false (arcs.map swap)) v).length) c115]) (by kernel_rfl) (R_call #[.slice none 0 0, .slice A114 ((idxs (keys false (arcs.map swap)) v).length) c115] Try.func23 (by kernel_rfl) (by kernel_rfl) (by kernel_rfl)) ?_
            refine (same_eq _ _ _ _ ([]) (idxs (keys false (arcs.map swap)) v) _ (by first | rfl | (rw [keys_swap]; rfl) | exact (idxs_out hFF hvr).symm | exact (nexts_out hFF hvr).symm | (rw [keys_swap]; exact (idxs_out hFF hvr).symm)) (Rd_nil _ _) (Rd.row HS (i := 0) rfl) (by first | (have := idxs_le false arcs v; have := idxs_le true arcs v; omega) | (have := idxs_le false arcs v; rw [nexts_len]; omega) | (simp; done) | (have := idxs_le false (arcs.map swap) v; rw [List.length_map] at this; omega))).mono ?_
            rintro e W117 ⟨rfl, H_⟩
            refine ⟨_, rfl, ?_⟩
            replace HS : St W8 (owns []) W117 [row A114 ((idxs (keys false (arcs.map swap)) v).length) c115 (ci .i64 (idxs (keys false (arcs.map swap)) v)) 3 1, row A111 ((arcs.map swap).length) c112 (cf arcC (arcs.map swap)) 38 2, row A104 ((idxs (keys false arcs) v).length) c105 (ci .i64 (idxs (keys false arcs) v)) 3 1, blk g69 [.int .i64 0, .int .i64 0] 35] := HS.join (F := []) (G := []) H_
            clear H_
            refine ql (.bool true) (by kernel_rfl) (by kernel_rfl) ?_
            refine ql (.bool true) (by kernel_rfl) (by kernel_rfl) ?_
            refine ql (.pointer (some ⟨g, 0, none⟩)) (by kernel_rfl) (by kernel_rfl) ?_
            refine ql (.int .i64 v) (by kernel_rfl) (by kernel_rfl) ?_
            refine qc (f := 15) (args := #[.pointer (some ⟨g, 0, none⟩), .int .i64 v]) (by kernel_rfl) (R_call #[.pointer (some ⟨g, 0, none⟩), .int .i64 v] Try.func15 (by kernel_rfl) (by kernel_rfl) (by kernel_rfl)) ?_
            refine (next_no g N arcs _ (hG.below (HS.kept.below owns_nil)) v (by omega)).mono ?_
            rintro e W120 ⟨rfl, H_⟩
            refine ⟨_, rfl, ?_⟩
            replace HS : St W8 (owns []) W120 [row A114 ((idxs (keys false (arcs.map swap)) v).length) c115 (ci .i64 (idxs (keys false (arcs.map swap)) v)) 3 1, row A111 ((arcs.map swap).length) c112 (cf arcC (arcs.map swap)) 38 2, row A104 ((idxs (keys false arcs) v).length) c105 (ci .i64 (idxs (keys false arcs) v)) 3 1, blk g69 [.int .i64 0, .int .i64 0] 35] := HS.join (F := []) (G := []) H_
            clear H_
            refine ql (.slice A arcs.length c) (by kernel_rfl) (by kernel_rfl) ?_
            refine ql (.int .i64 v) (by kernel_rfl) (by kernel_rfl) ?_
            refine qc (f := 26) (args := #[.slice A arcs.length c, .int .i64 v]) (by kernel_rfl) (R_call #[.slice A arcs.length c, .int .i64 v] Try.func26 (by kernel_rfl) (by kernel_rfl) (by kernel_rfl)) ?_
            refine (ref_next _ _ arcs _ (hr.old0 HS) (by first | omega | (rw [List.length_map]; omega)) v).mono ?_
            rintro e W123 ⟨A121, c122, rfl, H_⟩
            refine ⟨_, rfl, ?_⟩
            replace HS : St W8 (owns []) W123 [row A121 ((nexts arcs v).length) c122 (ci .i64 (nexts arcs v)) 3 1, row A114 ((idxs (keys false (arcs.map swap)) v).length) c115 (ci .i64 (idxs (keys false (arcs.map swap)) v)) 3 1, row A111 ((arcs.map swap).length) c112 (cf arcC (arcs.map swap)) 38 2, row A104 ((idxs (keys false arcs) v).length) c105 (ci .i64 (idxs (keys false arcs) v)) 3 1, blk g69 [.int .i64 0, .int .i64 0] 35] := HS.join (F := []) (G := [row A121 ((nexts arcs v).length) c122 (ci .i64 (nexts arcs v)) 3 1]) H_
            clear H_
            refine qc (f := 23) (args := #[.slice none 0 0, .slice A121 ((nexts arcs v).length) c122]) (by kernel_rfl) (R_call #[.slice none 0 0, .slice A121 ((nexts arcs v).length) c122] Try.func23 (by kernel_rfl) (by kernel_rfl) (by kernel_rfl)) ?_
            refine (same_eq _ _ _ _ ([]) (nexts arcs v) _ (by first | rfl | (rw [keys_swap]; rfl) | exact (idxs_out hFF hvr).symm | exact (nexts_out hFF hvr).symm | (rw [keys_swap]; exact (idxs_out hFF hvr).symm)) (Rd_nil _ _) (Rd.row HS (i := 0) rfl) (by first | (have := idxs_le false arcs v; have := idxs_le true arcs v; omega) | (have := idxs_le false arcs v; rw [nexts_len]; omega) | (simp; done) | (have := idxs_le false (arcs.map swap) v; rw [List.length_map] at this; omega))).mono ?_
            rintro e W124 ⟨rfl, H_⟩
            refine ⟨_, rfl, ?_⟩
            replace HS : St W8 (owns []) W124 [row A121 ((nexts arcs v).length) c122 (ci .i64 (nexts arcs v)) 3 1, row A114 ((idxs (keys false (arcs.map swap)) v).length) c115 (ci .i64 (idxs (keys false (arcs.map swap)) v)) 3 1, row A111 ((arcs.map swap).length) c112 (cf arcC (arcs.map swap)) 38 2, row A104 ((idxs (keys false arcs) v).length) c105 (ci .i64 (idxs (keys false arcs) v)) 3 1, blk g69 [.int .i64 0, .int .i64 0] 35] := HS.join (F := []) (G := []) H_
            clear H_
            refine ql (.bool true) (by kernel_rfl) (by kernel_rfl) ?_
            refine ql (.bool true) (by kernel_rfl) (by kernel_rfl) ?_
            refine qc (f := 12) (args := #[]) (by kernel_rfl) (R_call #[] Try.func12 (by kernel_rfl) (by kernel_rfl) (by kernel_rfl)) ?_
            refine (awake_calls _).mono ?_
            rintro e W125 ⟨rfl, H_⟩
            refine ⟨_, rfl, ?_⟩
            replace HS : St W8 (owns []) W125 [row A121 ((nexts arcs v).length) c122 (ci .i64 (nexts arcs v)) 3 1, row A114 ((idxs (keys false (arcs.map swap)) v).length) c115 (ci .i64 (idxs (keys false (arcs.map swap)) v)) 3 1, row A111 ((arcs.map swap).length) c112 (cf arcC (arcs.map swap)) 38 2, row A104 ((idxs (keys false arcs) v).length) c105 (ci .i64 (idxs (keys false arcs) v)) 3 1, blk g69 [.int .i64 0, .int .i64 0] 35] := HS.join (F := []) (G := []) H_
            clear H_
            refine ql (.bool true) (by kernel_rfl) (by kernel_rfl) ?_
            refine ql (.bool true) (by kernel_rfl) (by kernel_rfl) ?_
            refine wpList_nil ?_
            refine x_then ?_
            refine wp_ret ?_
            refine ret_ (.bool true) (by kernel_rfl) ?_
            replace HS : St W (owns []) W125 [row A121 ((nexts arcs v).length) c122 (ci .i64 (nexts arcs v)) 3 1, row A114 ((idxs (keys false (arcs.map swap)) v).length) c115 (ci .i64 (idxs (keys false (arcs.map swap)) v)) 3 1, row A111 ((arcs.map swap).length) c112 (cf arcC (arcs.map swap)) 38 2, row A104 ((idxs (keys false arcs) v).length) c105 (ci .i64 (idxs (keys false arcs) v)) 3 1, blk g69 [.int .i64 0, .int .i64 0] 35] := HB9.join (F := []) (G := [row A121 ((nexts arcs v).length) c122 (ci .i64 (nexts arcs v)) 3 1, row A114 ((idxs (keys false (arcs.map swap)) v).length) c115 (ci .i64 (idxs (keys false (arcs.map swap)) v)) 3 1, row A111 ((arcs.map swap).length) c112 (cf arcC (arcs.map swap)) 38 2, row A104 ((idxs (keys false arcs) v).length) c105 (ci .i64 (idxs (keys false arcs) v)) 3 1, blk g69 [.int .i64 0, .int .i64 0] 35]) HS
            exact ⟨rfl, HS.tail (F := [row A121 ((nexts arcs v).length) c122 (ci .i64 (nexts arcs v)) 3 1, row A114 ((idxs (keys false (arcs.map swap)) v).length) c115 (ci .i64 (idxs (keys false (arcs.map swap)) v)) 3 1, row A111 ((arcs.map swap).length) c112 (cf arcC (arcs.map swap)) 38 2, row A104 ((idxs (keys false arcs) v).length) c105 (ci .i64 (idxs (keys false arcs) v)) 3 1, blk g69 [.int .i64 0, .int .i64 0] 35])⟩
        · skip
          refine qs (.bool false) (by kernel_rfl) (R_nbool (p := i ≥ (0 : Int)) (by kernel_rfl) (hc73)) ?_
          refine qs (.bool false) (by kernel_rfl) (by kernel_rfl) ?_
          refine qsn (by kernel_rfl) ?_
          refine qsn (by kernel_rfl) ?_
          refine qsn (by kernel_rfl) ?_
          refine qsn (by kernel_rfl) ?_
          refine qs (.bool false) (by kernel_rfl) (by kernel_rfl) ?_
          refine qs (.bool false) (by kernel_rfl) (by kernel_rfl) ?_
          refine qs (.bool false) (by kernel_rfl) (by kernel_rfl) ?_
          refine qs (.bool false) (by kernel_rfl) (by kernel_rfl) ?_
          refine qs (.bool false) (by kernel_rfl) (by kernel_rfl) ?_
          refine qsn (by kernel_rfl) ?_
          refine qsn (by kernel_rfl) ?_
          refine qsn (by kernel_rfl) ?_
          refine qsn (by kernel_rfl) ?_
          refine qsn (by kernel_rfl) ?_
          refine qsn (by kernel_rfl) ?_
          refine qsn (by kernel_rfl) ?_
          refine qsn (by kernel_rfl) ?_
          refine qsn (by kernel_rfl) ?_
          refine qsn (by kernel_rfl) ?_
          refine qsn (by kernel_rfl) ?_
          refine qsn (by kernel_rfl) ?_
          refine qsn (by kernel_rfl) ?_
          refine qsn (by kernel_rfl) ?_
          refine qsn (by kernel_rfl) ?_
          refine qsn (by kernel_rfl) ?_
          refine qsn (by kernel_rfl) ?_
          refine qsn (by kernel_rfl) ?_
          refine qs (.bool false) (by kernel_rfl) (by kernel_rfl) ?_
          refine qs (.bool false) (by kernel_rfl) (by kernel_rfl) ?_
          refine qs (.bool false) (by kernel_rfl) (by kernel_rfl) ?_
          refine qs (.bool false) (by kernel_rfl) (by kernel_rfl) ?_
          refine qs (.bool true) (by kernel_rfl) (by kernel_rfl) ?_
          refine qs (.bool true) (by kernel_rfl) (by kernel_rfl) ?_
          refine qs (.pointer (some ⟨g69, 0, none⟩)) (by kernel_rfl) (by kernel_rfl) ?_
          refine qs (.int .i64 0) (by kernel_rfl) (R_load (p := ⟨g69, 0, none⟩) (by kernel_rfl) (by kernel_rfl) (by kernel_rfl) (HS.cell (i := 0) (j := 0) rfl rfl)) ?_
          refine qs (.bool false) (by kernel_rfl) (R_beq (b := ((0 : Int) != 0)) (by kernel_rfl) (by decide)) ?_
          refine qs (.bool false) (by kernel_rfl) (by kernel_rfl) ?_
          refine qs (.pointer (some ⟨g69, 1, none⟩)) (by kernel_rfl) (by kernel_rfl) ?_
          refine qs (.int .i64 0) (by kernel_rfl) (R_load (p := ⟨g69, 1, none⟩) (by kernel_rfl) (by kernel_rfl) (by kernel_rfl) (HS.cell (i := 0) (j := 1) rfl rfl)) ?_
          refine qs (.bool false) (by kernel_rfl) (R_beq (b := ((0 : Int) != 0)) (by kernel_rfl) (by decide)) ?_
          refine qs (.bool false) (by kernel_rfl) (by kernel_rfl) ?_
          refine qs (.bool false) (by kernel_rfl) (by kernel_rfl) ?_
          refine wpStill_nil ?_
          refine ql (.bool false) (by kernel_rfl) (by kernel_rfl) ?_
          refine wpList_nil ?_
          refine x_then ?_
          refine wp_cond_false (by kernel_rfl) ?_
          refine wp_skip ?_
          refine x_then ?_
          refine wp_seq ?_
          refine wp_region_lit ?_
          refine ql (.pointer (some ⟨g, 0, none⟩)) (by kernel_rfl) (by kernel_rfl) ?_
          refine qc (f := 17) (args := #[.pointer (some ⟨g, 0, none⟩)]) (by kernel_rfl) (R_call #[.pointer (some ⟨g, 0, none⟩)] Try.func17 (by kernel_rfl) (by kernel_rfl) (by kernel_rfl)) ?_
          refine (nodessome g N arcs _ (hG.below (HS.kept.below owns_nil))).mono ?_
          rintro e W126 ⟨rfl, H_⟩
          refine ⟨_, rfl, ?_⟩
          replace HS : St W8 (owns []) W126 [blk g69 [.int .i64 0, .int .i64 0] 35] := HS.join (F := []) (G := []) H_
          clear H_
          refine ql (.int .i64 (N : Int)) (by kernel_rfl) (by kernel_rfl) ?_
          refine ql (.bool true) (by kernel_rfl) (R_beq (b := ((N : Int) == (N : Int))) (by kernel_rfl) (beq_t (by omega))) ?_
          refine ql (.bool true) (by kernel_rfl) (by kernel_rfl) ?_
          refine ql (.pointer (some ⟨g, 0, none⟩)) (by kernel_rfl) (by kernel_rfl) ?_
          refine qc (f := 18) (args := #[.pointer (some ⟨g, 0, none⟩)]) (by kernel_rfl) (R_call #[.pointer (some ⟨g, 0, none⟩)] Try.func18 (by kernel_rfl) (by kernel_rfl) (by kernel_rfl)) ?_
          refine (arcs_some g N arcs _ (hG.below (HS.kept.below owns_nil))).mono ?_
          rintro e W127 ⟨rfl, H_⟩
          refine ⟨_, rfl, ?_⟩
          replace HS : St W8 (owns []) W127 [blk g69 [.int .i64 0, .int .i64 0] 35] := HS.join (F := []) (G := []) H_
          clear H_
          refine ql (.slice A arcs.length c) (by kernel_rfl) (by kernel_rfl) ?_
          refine ql (.int .i64 (arcs.length : Int)) (by kernel_rfl) (by kernel_rfl) ?_
          refine ql (.bool true) (by kernel_rfl) (R_beq (b := ((arcs.length : Int) == (arcs.length : Int))) (by kernel_rfl) (beq_t (by omega))) ?_
          refine ql (.bool true) (by kernel_rfl) (by kernel_rfl) ?_
          refine ql (.bool true) (by kernel_rfl) (by kernel_rfl) ?_
          refine ql (.pointer (some ⟨g, 0, none⟩)) (by kernel_rfl) (by kernel_rfl) ?_
          refine ql (.int .i64 v) (by kernel_rfl) (by kernel_rfl) ?_
          refine qc (f := 19) (args := #[.pointer (some ⟨g, 0, none⟩), .int .i64 v]) (by kernel_rfl) (R_call #[.pointer (some ⟨g, 0, none⟩), .int .i64 v] Try.func19 (by kernel_rfl) (by kernel_rfl) (by kernel_rfl)) ?_
          by_cases hvr : 0 ≤ v ∧ v < (N : Int)
          · skip
            refine (out_yes g N arcs _ (hG.below (HS.kept.below owns_nil)) v (by omega) (by omega)).mono ?_
            rintro e W130 ⟨A128, c129, rfl, H_⟩
            refine ⟨_, rfl, ?_⟩
            replace HS : St W8 (owns []) W130 [row A128 ((idxs (keys false arcs) v).length) c129 (ci .i64 (idxs (keys false arcs) v)) 3 1, blk g69 [.int .i64 0, .int .i64 0] 35] := HS.join (F := []) (G := [row A128 ((idxs (keys false arcs) v).length) c129 (ci .i64 (idxs (keys false arcs) v)) 3 1]) H_
            clear H_
            refine ql (.slice A arcs.length c) (by kernel_rfl) (by kernel_rfl) ?_
            refine ql (.int .i64 v) (by kernel_rfl) (by kernel_rfl) ?_
            refine qc (f := 24) (args := #[.slice A arcs.length c, .int .i64 v]) (by kernel_rfl) (R_call #[.slice A arcs.length c, .int .i64 v] Try.func24 (by kernel_rfl) (by kernel_rfl) (by kernel_rfl)) ?_
            refine (ref_out _ _ arcs _ (hr.old0 HS) (by first | omega | (rw [List.length_map]; omega)) v).mono ?_
            rintro e W133 ⟨A131, c132, rfl, H_⟩
            refine ⟨_, rfl, ?_⟩
            replace HS : St W8 (owns []) W133 [row A131 ((idxs (keys false arcs) v).length) c132 (ci .i64 (idxs (keys false arcs) v)) 3 1, row A128 ((idxs (keys false arcs) v).length) c129 (ci .i64 (idxs (keys false arcs) v)) 3 1, blk g69 [.int .i64 0, .int .i64 0] 35] := HS.join (F := []) (G := [row A131 ((idxs (keys false arcs) v).length) c132 (ci .i64 (idxs (keys false arcs) v)) 3 1]) H_
            clear H_
            refine qc (f := 23) (args := #[.slice A128 ((idxs (keys false arcs) v).length) c129, .slice A131 ((idxs (keys false arcs) v).length) c132]) (by kernel_rfl) (R_call #[.slice A128 ((idxs (keys false arcs) v).length) c129, .slice A131 ((idxs (keys false arcs) v).length) c132] Try.func23 (by kernel_rfl) (by kernel_rfl) (by kernel_rfl)) ?_
            refine (same_eq _ _ _ _ (idxs (keys false arcs) v) (idxs (keys false arcs) v) _ rfl (Rd.row HS (i := 1) rfl) (Rd.row HS (i := 0) rfl) (by first | (have := idxs_le false arcs v; have := idxs_le true arcs v; omega) | (have := idxs_le false arcs v; rw [nexts_len]; omega) | (simp; done) | (have := idxs_le false (arcs.map swap) v; rw [List.length_map] at this; omega))).mono ?_
            rintro e W134 ⟨rfl, H_⟩
            refine ⟨_, rfl, ?_⟩
            replace HS : St W8 (owns []) W134 [row A131 ((idxs (keys false arcs) v).length) c132 (ci .i64 (idxs (keys false arcs) v)) 3 1, row A128 ((idxs (keys false arcs) v).length) c129 (ci .i64 (idxs (keys false arcs) v)) 3 1, blk g69 [.int .i64 0, .int .i64 0] 35] := HS.join (F := []) (G := []) H_
            clear H_
            refine ql (.bool true) (by kernel_rfl) (by kernel_rfl) ?_
            refine ql (.bool true) (by kernel_rfl) (by kernel_rfl) ?_
            refine ql (.pointer (some ⟨g, 0, none⟩)) (by kernel_rfl) (by kernel_rfl) ?_
            refine ql (.int .i64 v) (by kernel_rfl) (by kernel_rfl) ?_
            refine qc (f := 20) (args := #[.pointer (some ⟨g, 0, none⟩), .int .i64 v]) (by kernel_rfl) (R_call #[.pointer (some ⟨g, 0, none⟩), .int .i64 v] Try.func20 (by kernel_rfl) (by kernel_rfl) (by kernel_rfl)) ?_
            refine (in_yes g N arcs _ (hG.below (HS.kept.below owns_nil)) v (by omega) (by omega)).mono ?_
            rintro e W137 ⟨A135, c136, rfl, H_⟩
            refine ⟨_, rfl, ?_⟩
            replace HS : St W8 (owns []) W137 [row A135 ((idxs (keys true arcs) v).length) c136 (ci .i64 (idxs (keys true arcs) v)) 3 1, row A131 ((idxs (keys false arcs) v).length) c132 (ci .i64 (idxs (keys false arcs) v)) 3 1, row A128 ((idxs (keys false arcs) v).length) c129 (ci .i64 (idxs (keys false arcs) v)) 3 1, blk g69 [.int .i64 0, .int .i64 0] 35] := HS.join (F := []) (G := [row A135 ((idxs (keys true arcs) v).length) c136 (ci .i64 (idxs (keys true arcs) v)) 3 1]) H_
            clear H_
            refine ql (.slice A arcs.length c) (by kernel_rfl) (by kernel_rfl) ?_
            refine qc (f := 25) (args := #[.slice A arcs.length c]) (by kernel_rfl) (R_call #[.slice A arcs.length c] Try.func25 (by kernel_rfl) (by kernel_rfl) (by kernel_rfl)) ?_
            refine (ref_turn _ _ arcs _ (hr.old0 HS) (by first | omega | (rw [List.length_map]; omega)) ).mono ?_
            rintro e W140 ⟨A138, c139, rfl, H_⟩
            refine ⟨_, rfl, ?_⟩
            replace HS : St W8 (owns []) W140 [row A138 ((arcs.map swap).length) c139 (cf arcC (arcs.map swap)) 38 2, row A135 ((idxs (keys true arcs) v).length) c136 (ci .i64 (idxs (keys true arcs) v)) 3 1, row A131 ((idxs (keys false arcs) v).length) c132 (ci .i64 (idxs (keys false arcs) v)) 3 1, row A128 ((idxs (keys false arcs) v).length) c129 (ci .i64 (idxs (keys false arcs) v)) 3 1, blk g69 [.int .i64 0, .int .i64 0] 35] := HS.join (F := []) (G := [row A138 ((arcs.map swap).length) c139 (cf arcC (arcs.map swap)) 38 2]) H_
            clear H_
            refine ql (.int .i64 v) (by kernel_rfl) (by kernel_rfl) ?_
            refine qc (f := 24) (args := #[.slice A138 ((arcs.map swap).length) c139, .int .i64 v]) (by kernel_rfl) (R_call #[.slice A138 ((arcs.map swap).length) c139, .int .i64 v] Try.func24 (by kernel_rfl) (by kernel_rfl) (by kernel_rfl)) ?_
            refine (ref_out _ _ (arcs.map swap) _ (Rd.row HS (i := 0) rfl) (by first | omega | (rw [List.length_map]; omega)) v).mono ?_
            rintro e W143 ⟨A141, c142, rfl, H_⟩
            refine ⟨_, rfl, ?_⟩
            replace HS : St W8 (owns []) W143 [row A141 ((idxs (keys false (arcs.map swap)) v).length) c142 (ci .i64 (idxs (keys false (arcs.map swap)) v)) 3 1, row A138 ((arcs.map swap).length) c139 (cf arcC (arcs.map swap)) 38 2, row A135 ((idxs (keys true arcs) v).length) c136 (ci .i64 (idxs (keys true arcs) v)) 3 1, row A131 ((idxs (keys false arcs) v).length) c132 (ci .i64 (idxs (keys false arcs) v)) 3 1, row A128 ((idxs (keys false arcs) v).length) c129 (ci .i64 (idxs (keys false arcs) v)) 3 1, blk g69 [.int .i64 0, .int .i64 0] 35] := HS.join (F := []) (G := [row A141 ((idxs (keys false (arcs.map swap)) v).length) c142 (ci .i64 (idxs (keys false (arcs.map swap)) v)) 3 1]) H_
            clear H_
            refine qc (f := 23) (args := #[.slice A135 ((idxs (keys true arcs) v).length) c136, .slice A141 ((idxs (keys false (arcs.map swap)) v).length) c142]) (by kernel_rfl) (R_call #[.slice A135 ((idxs (keys true arcs) v).length) c136, .slice A141 ((idxs (keys false (arcs.map swap)) v).length) c142] Try.func23 (by kernel_rfl) (by kernel_rfl) (by kernel_rfl)) ?_
            refine (same_eq _ _ _ _ (idxs (keys true arcs) v) (idxs (keys false (arcs.map swap)) v) _ (by first | rfl | (rw [keys_swap]; rfl) | exact (idxs_out hFF hvr).symm | exact (nexts_out hFF hvr).symm | (rw [keys_swap]; exact (idxs_out hFF hvr).symm)) (Rd.row HS (i := 2) rfl) (Rd.row HS (i := 0) rfl) (by first | (have := idxs_le false arcs v; have := idxs_le true arcs v; omega) | (have := idxs_le false arcs v; rw [nexts_len]; omega) | (simp; done) | (have := idxs_le false (arcs.map swap) v; rw [List.length_map] at this; omega))).mono ?_
            rintro e W144 ⟨rfl, H_⟩
            refine ⟨_, rfl, ?_⟩
            replace HS : St W8 (owns []) W144 [row A141 ((idxs (keys false (arcs.map swap)) v).length) c142 (ci .i64 (idxs (keys false (arcs.map swap)) v)) 3 1, row A138 ((arcs.map swap).length) c139 (cf arcC (arcs.map swap)) 38 2, row A135 ((idxs (keys true arcs) v).length) c136 (ci .i64 (idxs (keys true arcs) v)) 3 1, row A131 ((idxs (keys false arcs) v).length) c132 (ci .i64 (idxs (keys false arcs) v)) 3 1, row A128 ((idxs (keys false arcs) v).length) c129 (ci .i64 (idxs (keys false arcs) v)) 3 1, blk g69 [.int .i64 0, .int .i64 0] 35] := HS.join (F := []) (G := []) H_
            clear H_
            refine ql (.bool true) (by kernel_rfl) (by kernel_rfl) ?_
            refine ql (.bool true) (by kernel_rfl) (by kernel_rfl) ?_
            refine ql (.pointer (some ⟨g, 0, none⟩)) (by kernel_rfl) (by kernel_rfl) ?_
            refine ql (.int .i64 v) (by kernel_rfl) (by kernel_rfl) ?_
            refine qc (f := 15) (args := #[.pointer (some ⟨g, 0, none⟩), .int .i64 v]) (by kernel_rfl) (R_call #[.pointer (some ⟨g, 0, none⟩), .int .i64 v] Try.func15 (by kernel_rfl) (by kernel_rfl) (by kernel_rfl)) ?_
            refine (next_yes g N arcs _ (hG.below (HS.kept.below owns_nil)) v (by omega) (by omega)).mono ?_
            rintro e W147 ⟨A145, c146, rfl, H_⟩
            refine ⟨_, rfl, ?_⟩
            replace HS : St W8 (owns []) W147 [row A145 ((nexts arcs v).length) c146 (ci .i64 (nexts arcs v)) 3 1, row A141 ((idxs (keys false (arcs.map swap)) v).length) c142 (ci .i64 (idxs (keys false (arcs.map swap)) v)) 3 1, row A138 ((arcs.map swap).length) c139 (cf arcC (arcs.map swap)) 38 2, row A135 ((idxs (keys true arcs) v).length) c136 (ci .i64 (idxs (keys true arcs) v)) 3 1, row A131 ((idxs (keys false arcs) v).length) c132 (ci .i64 (idxs (keys false arcs) v)) 3 1, row A128 ((idxs (keys false arcs) v).length) c129 (ci .i64 (idxs (keys false arcs) v)) 3 1, blk g69 [.int .i64 0, .int .i64 0] 35] := HS.join (F := []) (G := [row A145 ((nexts arcs v).length) c146 (ci .i64 (nexts arcs v)) 3 1]) H_
            clear H_
            refine ql (.slice A arcs.length c) (by kernel_rfl) (by kernel_rfl) ?_
            refine ql (.int .i64 v) (by kernel_rfl) (by kernel_rfl) ?_
            refine qc (f := 26) (args := #[.slice A arcs.length c, .int .i64 v]) (by kernel_rfl) (R_call #[.slice A arcs.length c, .int .i64 v] Try.func26 (by kernel_rfl) (by kernel_rfl) (by kernel_rfl)) ?_
            refine (ref_next _ _ arcs _ (hr.old0 HS) (by first | omega | (rw [List.length_map]; omega)) v).mono ?_
            rintro e W150 ⟨A148, c149, rfl, H_⟩
            refine ⟨_, rfl, ?_⟩
            replace HS : St W8 (owns []) W150 [row A148 ((nexts arcs v).length) c149 (ci .i64 (nexts arcs v)) 3 1, row A145 ((nexts arcs v).length) c146 (ci .i64 (nexts arcs v)) 3 1, row A141 ((idxs (keys false (arcs.map swap)) v).length) c142 (ci .i64 (idxs (keys false (arcs.map swap)) v)) 3 1, row A138 ((arcs.map swap).length) c139 (cf arcC (arcs.map swap)) 38 2, row A135 ((idxs (keys true arcs) v).length) c136 (ci .i64 (idxs (keys true arcs) v)) 3 1, row A131 ((idxs (keys false arcs) v).length) c132 (ci .i64 (idxs (keys false arcs) v)) 3 1, row A128 ((idxs (keys false arcs) v).length) c129 (ci .i64 (idxs (keys false arcs) v)) 3 1, blk g69 [.int .i64 0, .int .i64 0] 35] := HS.join (F := []) (G := [row A148 ((nexts arcs v).length) c149 (ci .i64 (nexts arcs v)) 3 1]) H_
            clear H_
            refine qc (f := 23) (args := #[.slice A145 ((nexts arcs v).length) c146, .slice A148 ((nexts arcs v).length) c149]) (by kernel_rfl) (R_call #[.slice A145 ((nexts arcs v).length) c146, .slice A148 ((nexts arcs v).length) c149] Try.func23 (by kernel_rfl) (by kernel_rfl) (by kernel_rfl)) ?_
            refine (same_eq _ _ _ _ (nexts arcs v) (nexts arcs v) _ rfl (Rd.row HS (i := 1) rfl) (Rd.row HS (i := 0) rfl) (by first | (have := idxs_le false arcs v; have := idxs_le true arcs v; omega) | (have := idxs_le false arcs v; rw [nexts_len]; omega) | (simp; done) | (have := idxs_le false (arcs.map swap) v; rw [List.length_map] at this; omega))).mono ?_
            rintro e W151 ⟨rfl, H_⟩
            refine ⟨_, rfl, ?_⟩
            replace HS : St W8 (owns []) W151 [row A148 ((nexts arcs v).length) c149 (ci .i64 (nexts arcs v)) 3 1, row A145 ((nexts arcs v).length) c146 (ci .i64 (nexts arcs v)) 3 1, row A141 ((idxs (keys false (arcs.map swap)) v).length) c142 (ci .i64 (idxs (keys false (arcs.map swap)) v)) 3 1, row A138 ((arcs.map swap).length) c139 (cf arcC (arcs.map swap)) 38 2, row A135 ((idxs (keys true arcs) v).length) c136 (ci .i64 (idxs (keys true arcs) v)) 3 1, row A131 ((idxs (keys false arcs) v).length) c132 (ci .i64 (idxs (keys false arcs) v)) 3 1, row A128 ((idxs (keys false arcs) v).length) c129 (ci .i64 (idxs (keys false arcs) v)) 3 1, blk g69 [.int .i64 0, .int .i64 0] 35] := HS.join (F := []) (G := []) H_
            clear H_
            refine ql (.bool true) (by kernel_rfl) (by kernel_rfl) ?_
            refine ql (.bool true) (by kernel_rfl) (by kernel_rfl) ?_
            refine qc (f := 12) (args := #[]) (by kernel_rfl) (R_call #[] Try.func12 (by kernel_rfl) (by kernel_rfl) (by kernel_rfl)) ?_
            refine (awake_calls _).mono ?_
            rintro e W152 ⟨rfl, H_⟩
            refine ⟨_, rfl, ?_⟩
            replace HS : St W8 (owns []) W152 [row A148 ((nexts arcs v).length) c149 (ci .i64 (nexts arcs v)) 3 1, row A145 ((nexts arcs v).length) c146 (ci .i64 (nexts arcs v)) 3 1, row A141 ((idxs (keys false (arcs.map swap)) v).length) c142 (ci .i64 (idxs (keys false (arcs.map swap)) v)) 3 1, row A138 ((arcs.map swap).length) c139 (cf arcC (arcs.map swap)) 38 2, row A135 ((idxs (keys true arcs) v).length) c136 (ci .i64 (idxs (keys true arcs) v)) 3 1, row A131 ((idxs (keys false arcs) v).length) c132 (ci .i64 (idxs (keys false arcs) v)) 3 1, row A128 ((idxs (keys false arcs) v).length) c129 (ci .i64 (idxs (keys false arcs) v)) 3 1, blk g69 [.int .i64 0, .int .i64 0] 35] := HS.join (F := []) (G := []) H_
            clear H_
            refine ql (.bool true) (by kernel_rfl) (by kernel_rfl) ?_
            refine ql (.bool true) (by kernel_rfl) (by kernel_rfl) ?_
            refine wpList_nil ?_
            refine x_then ?_
            refine wp_ret ?_
            refine ret_ (.bool true) (by kernel_rfl) ?_
            replace HS : St W (owns []) W152 [row A148 ((nexts arcs v).length) c149 (ci .i64 (nexts arcs v)) 3 1, row A145 ((nexts arcs v).length) c146 (ci .i64 (nexts arcs v)) 3 1, row A141 ((idxs (keys false (arcs.map swap)) v).length) c142 (ci .i64 (idxs (keys false (arcs.map swap)) v)) 3 1, row A138 ((arcs.map swap).length) c139 (cf arcC (arcs.map swap)) 38 2, row A135 ((idxs (keys true arcs) v).length) c136 (ci .i64 (idxs (keys true arcs) v)) 3 1, row A131 ((idxs (keys false arcs) v).length) c132 (ci .i64 (idxs (keys false arcs) v)) 3 1, row A128 ((idxs (keys false arcs) v).length) c129 (ci .i64 (idxs (keys false arcs) v)) 3 1, blk g69 [.int .i64 0, .int .i64 0] 35] := HB9.join (F := []) (G := [row A148 ((nexts arcs v).length) c149 (ci .i64 (nexts arcs v)) 3 1, row A145 ((nexts arcs v).length) c146 (ci .i64 (nexts arcs v)) 3 1, row A141 ((idxs (keys false (arcs.map swap)) v).length) c142 (ci .i64 (idxs (keys false (arcs.map swap)) v)) 3 1, row A138 ((arcs.map swap).length) c139 (cf arcC (arcs.map swap)) 38 2, row A135 ((idxs (keys true arcs) v).length) c136 (ci .i64 (idxs (keys true arcs) v)) 3 1, row A131 ((idxs (keys false arcs) v).length) c132 (ci .i64 (idxs (keys false arcs) v)) 3 1, row A128 ((idxs (keys false arcs) v).length) c129 (ci .i64 (idxs (keys false arcs) v)) 3 1, blk g69 [.int .i64 0, .int .i64 0] 35]) HS
            exact ⟨rfl, HS.tail (F := [row A148 ((nexts arcs v).length) c149 (ci .i64 (nexts arcs v)) 3 1, row A145 ((nexts arcs v).length) c146 (ci .i64 (nexts arcs v)) 3 1, row A141 ((idxs (keys false (arcs.map swap)) v).length) c142 (ci .i64 (idxs (keys false (arcs.map swap)) v)) 3 1, row A138 ((arcs.map swap).length) c139 (cf arcC (arcs.map swap)) 38 2, row A135 ((idxs (keys true arcs) v).length) c136 (ci .i64 (idxs (keys true arcs) v)) 3 1, row A131 ((idxs (keys false arcs) v).length) c132 (ci .i64 (idxs (keys false arcs) v)) 3 1, row A128 ((idxs (keys false arcs) v).length) c129 (ci .i64 (idxs (keys false arcs) v)) 3 1, blk g69 [.int .i64 0, .int .i64 0] 35])⟩
          · skip
            refine (out_no g N arcs _ (hG.below (HS.kept.below owns_nil)) v (by omega)).mono ?_
            rintro e W155 ⟨rfl, H_⟩
            refine ⟨_, rfl, ?_⟩
            replace HS : St W8 (owns []) W155 [blk g69 [.int .i64 0, .int .i64 0] 35] := HS.join (F := []) (G := []) H_
            clear H_
            refine ql (.slice A arcs.length c) (by kernel_rfl) (by kernel_rfl) ?_
            refine ql (.int .i64 v) (by kernel_rfl) (by kernel_rfl) ?_
            refine qc (f := 24) (args := #[.slice A arcs.length c, .int .i64 v]) (by kernel_rfl) (R_call #[.slice A arcs.length c, .int .i64 v] Try.func24 (by kernel_rfl) (by kernel_rfl) (by kernel_rfl)) ?_
            refine (ref_out _ _ arcs _ (hr.old0 HS) (by first | omega | (rw [List.length_map]; omega)) v).mono ?_
            rintro e W158 ⟨A156, c157, rfl, H_⟩
            refine ⟨_, rfl, ?_⟩
            replace HS : St W8 (owns []) W158 [row A156 ((idxs (keys false arcs) v).length) c157 (ci .i64 (idxs (keys false arcs) v)) 3 1, blk g69 [.int .i64 0, .int .i64 0] 35] := HS.join (F := []) (G := [row A156 ((idxs (keys false arcs) v).length) c157 (ci .i64 (idxs (keys false arcs) v)) 3 1]) H_
            clear H_
            refine qc (f := 23) (args := #[.slice none 0 0, .slice A156 ((idxs (keys false arcs) v).length) c157]) (by kernel_rfl) (R_call #[.slice none 0 0, .slice A156 ((idxs (keys false arcs) v).length) c157] Try.func23 (by kernel_rfl) (by kernel_rfl) (by kernel_rfl)) ?_
            refine (same_eq _ _ _ _ ([]) (idxs (keys false arcs) v) _ (by first | rfl | (rw [keys_swap]; rfl) | exact (idxs_out hFF hvr).symm | exact (nexts_out hFF hvr).symm | (rw [keys_swap]; exact (idxs_out hFF hvr).symm)) (Rd_nil _ _) (Rd.row HS (i := 0) rfl) (by first | (have := idxs_le false arcs v; have := idxs_le true arcs v; omega) | (have := idxs_le false arcs v; rw [nexts_len]; omega) | (simp; done) | (have := idxs_le false (arcs.map swap) v; rw [List.length_map] at this; omega))).mono ?_
            rintro e W159 ⟨rfl, H_⟩
            refine ⟨_, rfl, ?_⟩
            replace HS : St W8 (owns []) W159 [row A156 ((idxs (keys false arcs) v).length) c157 (ci .i64 (idxs (keys false arcs) v)) 3 1, blk g69 [.int .i64 0, .int .i64 0] 35] := HS.join (F := []) (G := []) H_
            clear H_
            refine ql (.bool true) (by kernel_rfl) (by kernel_rfl) ?_
            refine ql (.bool true) (by kernel_rfl) (by kernel_rfl) ?_
            refine ql (.pointer (some ⟨g, 0, none⟩)) (by kernel_rfl) (by kernel_rfl) ?_
            refine ql (.int .i64 v) (by kernel_rfl) (by kernel_rfl) ?_
            refine qc (f := 20) (args := #[.pointer (some ⟨g, 0, none⟩), .int .i64 v]) (by kernel_rfl) (R_call #[.pointer (some ⟨g, 0, none⟩), .int .i64 v] Try.func20 (by kernel_rfl) (by kernel_rfl) (by kernel_rfl)) ?_
            refine (in_no g N arcs _ (hG.below (HS.kept.below owns_nil)) v (by omega)).mono ?_
            rintro e W162 ⟨rfl, H_⟩
            refine ⟨_, rfl, ?_⟩
            replace HS : St W8 (owns []) W162 [row A156 ((idxs (keys false arcs) v).length) c157 (ci .i64 (idxs (keys false arcs) v)) 3 1, blk g69 [.int .i64 0, .int .i64 0] 35] := HS.join (F := []) (G := []) H_
            clear H_
            refine ql (.slice A arcs.length c) (by kernel_rfl) (by kernel_rfl) ?_
            refine qc (f := 25) (args := #[.slice A arcs.length c]) (by kernel_rfl) (R_call #[.slice A arcs.length c] Try.func25 (by kernel_rfl) (by kernel_rfl) (by kernel_rfl)) ?_
            refine (ref_turn _ _ arcs _ (hr.old0 HS) (by first | omega | (rw [List.length_map]; omega)) ).mono ?_
            rintro e W165 ⟨A163, c164, rfl, H_⟩
            refine ⟨_, rfl, ?_⟩
            replace HS : St W8 (owns []) W165 [row A163 ((arcs.map swap).length) c164 (cf arcC (arcs.map swap)) 38 2, row A156 ((idxs (keys false arcs) v).length) c157 (ci .i64 (idxs (keys false arcs) v)) 3 1, blk g69 [.int .i64 0, .int .i64 0] 35] := HS.join (F := []) (G := [row A163 ((arcs.map swap).length) c164 (cf arcC (arcs.map swap)) 38 2]) H_
            clear H_
            refine ql (.int .i64 v) (by kernel_rfl) (by kernel_rfl) ?_
            refine qc (f := 24) (args := #[.slice A163 ((arcs.map swap).length) c164, .int .i64 v]) (by kernel_rfl) (R_call #[.slice A163 ((arcs.map swap).length) c164, .int .i64 v] Try.func24 (by kernel_rfl) (by kernel_rfl) (by kernel_rfl)) ?_
            refine (ref_out _ _ (arcs.map swap) _ (Rd.row HS (i := 0) rfl) (by first | omega | (rw [List.length_map]; omega)) v).mono ?_
            rintro e W168 ⟨A166, c167, rfl, H_⟩
            refine ⟨_, rfl, ?_⟩
            replace HS : St W8 (owns []) W168 [row A166 ((idxs (keys false (arcs.map swap)) v).length) c167 (ci .i64 (idxs (keys false (arcs.map swap)) v)) 3 1, row A163 ((arcs.map swap).length) c164 (cf arcC (arcs.map swap)) 38 2, row A156 ((idxs (keys false arcs) v).length) c157 (ci .i64 (idxs (keys false arcs) v)) 3 1, blk g69 [.int .i64 0, .int .i64 0] 35] := HS.join (F := []) (G := [row A166 ((idxs (keys false (arcs.map swap)) v).length) c167 (ci .i64 (idxs (keys false (arcs.map swap)) v)) 3 1]) H_
            clear H_
            refine qc (f := 23) (args := #[.slice none 0 0, .slice A166 ((idxs (keys false (arcs.map swap)) v).length) c167]) (by kernel_rfl) (R_call #[.slice none 0 0, .slice A166 ((idxs (keys false (arcs.map swap)) v).length) c167] Try.func23 (by kernel_rfl) (by kernel_rfl) (by kernel_rfl)) ?_
            refine (same_eq _ _ _ _ ([]) (idxs (keys false (arcs.map swap)) v) _ (by first | rfl | (rw [keys_swap]; rfl) | exact (idxs_out hFF hvr).symm | exact (nexts_out hFF hvr).symm | (rw [keys_swap]; exact (idxs_out hFF hvr).symm)) (Rd_nil _ _) (Rd.row HS (i := 0) rfl) (by first | (have := idxs_le false arcs v; have := idxs_le true arcs v; omega) | (have := idxs_le false arcs v; rw [nexts_len]; omega) | (simp; done) | (have := idxs_le false (arcs.map swap) v; rw [List.length_map] at this; omega))).mono ?_
            rintro e W169 ⟨rfl, H_⟩
            refine ⟨_, rfl, ?_⟩
            replace HS : St W8 (owns []) W169 [row A166 ((idxs (keys false (arcs.map swap)) v).length) c167 (ci .i64 (idxs (keys false (arcs.map swap)) v)) 3 1, row A163 ((arcs.map swap).length) c164 (cf arcC (arcs.map swap)) 38 2, row A156 ((idxs (keys false arcs) v).length) c157 (ci .i64 (idxs (keys false arcs) v)) 3 1, blk g69 [.int .i64 0, .int .i64 0] 35] := HS.join (F := []) (G := []) H_
            clear H_
            refine ql (.bool true) (by kernel_rfl) (by kernel_rfl) ?_
            refine ql (.bool true) (by kernel_rfl) (by kernel_rfl) ?_
            refine ql (.pointer (some ⟨g, 0, none⟩)) (by kernel_rfl) (by kernel_rfl) ?_
            refine ql (.int .i64 v) (by kernel_rfl) (by kernel_rfl) ?_
            refine qc (f := 15) (args := #[.pointer (some ⟨g, 0, none⟩), .int .i64 v]) (by kernel_rfl) (R_call #[.pointer (some ⟨g, 0, none⟩), .int .i64 v] Try.func15 (by kernel_rfl) (by kernel_rfl) (by kernel_rfl)) ?_
            refine (next_no g N arcs _ (hG.below (HS.kept.below owns_nil)) v (by omega)).mono ?_
            rintro e W172 ⟨rfl, H_⟩
            refine ⟨_, rfl, ?_⟩
            replace HS : St W8 (owns []) W172 [row A166 ((idxs (keys false (arcs.map swap)) v).length) c167 (ci .i64 (idxs (keys false (arcs.map swap)) v)) 3 1, row A163 ((arcs.map swap).length) c164 (cf arcC (arcs.map swap)) 38 2, row A156 ((idxs (keys false arcs) v).length) c157 (ci .i64 (idxs (keys false arcs) v)) 3 1, blk g69 [.int .i64 0, .int .i64 0] 35] := HS.join (F := []) (G := []) H_
            clear H_
            refine ql (.slice A arcs.length c) (by kernel_rfl) (by kernel_rfl) ?_
            refine ql (.int .i64 v) (by kernel_rfl) (by kernel_rfl) ?_
            refine qc (f := 26) (args := #[.slice A arcs.length c, .int .i64 v]) (by kernel_rfl) (R_call #[.slice A arcs.length c, .int .i64 v] Try.func26 (by kernel_rfl) (by kernel_rfl) (by kernel_rfl)) ?_
            refine (ref_next _ _ arcs _ (hr.old0 HS) (by first | omega | (rw [List.length_map]; omega)) v).mono ?_
            rintro e W175 ⟨A173, c174, rfl, H_⟩
            refine ⟨_, rfl, ?_⟩
            replace HS : St W8 (owns []) W175 [row A173 ((nexts arcs v).length) c174 (ci .i64 (nexts arcs v)) 3 1, row A166 ((idxs (keys false (arcs.map swap)) v).length) c167 (ci .i64 (idxs (keys false (arcs.map swap)) v)) 3 1, row A163 ((arcs.map swap).length) c164 (cf arcC (arcs.map swap)) 38 2, row A156 ((idxs (keys false arcs) v).length) c157 (ci .i64 (idxs (keys false arcs) v)) 3 1, blk g69 [.int .i64 0, .int .i64 0] 35] := HS.join (F := []) (G := [row A173 ((nexts arcs v).length) c174 (ci .i64 (nexts arcs v)) 3 1]) H_
            clear H_
            refine qc (f := 23) (args := #[.slice none 0 0, .slice A173 ((nexts arcs v).length) c174]) (by kernel_rfl) (R_call #[.slice none 0 0, .slice A173 ((nexts arcs v).length) c174] Try.func23 (by kernel_rfl) (by kernel_rfl) (by kernel_rfl)) ?_
            refine (same_eq _ _ _ _ ([]) (nexts arcs v) _ (by first | rfl | (rw [keys_swap]; rfl) | exact (idxs_out hFF hvr).symm | exact (nexts_out hFF hvr).symm | (rw [keys_swap]; exact (idxs_out hFF hvr).symm)) (Rd_nil _ _) (Rd.row HS (i := 0) rfl) (by first | (have := idxs_le false arcs v; have := idxs_le true arcs v; omega) | (have := idxs_le false arcs v; rw [nexts_len]; omega) | (simp; done) | (have := idxs_le false (arcs.map swap) v; rw [List.length_map] at this; omega))).mono ?_
            rintro e W176 ⟨rfl, H_⟩
            refine ⟨_, rfl, ?_⟩
            replace HS : St W8 (owns []) W176 [row A173 ((nexts arcs v).length) c174 (ci .i64 (nexts arcs v)) 3 1, row A166 ((idxs (keys false (arcs.map swap)) v).length) c167 (ci .i64 (idxs (keys false (arcs.map swap)) v)) 3 1, row A163 ((arcs.map swap).length) c164 (cf arcC (arcs.map swap)) 38 2, row A156 ((idxs (keys false arcs) v).length) c157 (ci .i64 (idxs (keys false arcs) v)) 3 1, blk g69 [.int .i64 0, .int .i64 0] 35] := HS.join (F := []) (G := []) H_
            clear H_
            refine ql (.bool true) (by kernel_rfl) (by kernel_rfl) ?_
            refine ql (.bool true) (by kernel_rfl) (by kernel_rfl) ?_
            refine qc (f := 12) (args := #[]) (by kernel_rfl) (R_call #[] Try.func12 (by kernel_rfl) (by kernel_rfl) (by kernel_rfl)) ?_
            refine (awake_calls _).mono ?_
            rintro e W177 ⟨rfl, H_⟩
            refine ⟨_, rfl, ?_⟩
            replace HS : St W8 (owns []) W177 [row A173 ((nexts arcs v).length) c174 (ci .i64 (nexts arcs v)) 3 1, row A166 ((idxs (keys false (arcs.map swap)) v).length) c167 (ci .i64 (idxs (keys false (arcs.map swap)) v)) 3 1, row A163 ((arcs.map swap).length) c164 (cf arcC (arcs.map swap)) 38 2, row A156 ((idxs (keys false arcs) v).length) c157 (ci .i64 (idxs (keys false arcs) v)) 3 1, blk g69 [.int .i64 0, .int .i64 0] 35] := HS.join (F := []) (G := []) H_
            clear H_
            refine ql (.bool true) (by kernel_rfl) (by kernel_rfl) ?_
            refine ql (.bool true) (by kernel_rfl) (by kernel_rfl) ?_
            refine wpList_nil ?_
            refine x_then ?_
            refine wp_ret ?_
            refine ret_ (.bool true) (by kernel_rfl) ?_
            replace HS : St W (owns []) W177 [row A173 ((nexts arcs v).length) c174 (ci .i64 (nexts arcs v)) 3 1, row A166 ((idxs (keys false (arcs.map swap)) v).length) c167 (ci .i64 (idxs (keys false (arcs.map swap)) v)) 3 1, row A163 ((arcs.map swap).length) c164 (cf arcC (arcs.map swap)) 38 2, row A156 ((idxs (keys false arcs) v).length) c157 (ci .i64 (idxs (keys false arcs) v)) 3 1, blk g69 [.int .i64 0, .int .i64 0] 35] := HB9.join (F := []) (G := [row A173 ((nexts arcs v).length) c174 (ci .i64 (nexts arcs v)) 3 1, row A166 ((idxs (keys false (arcs.map swap)) v).length) c167 (ci .i64 (idxs (keys false (arcs.map swap)) v)) 3 1, row A163 ((arcs.map swap).length) c164 (cf arcC (arcs.map swap)) 38 2, row A156 ((idxs (keys false arcs) v).length) c157 (ci .i64 (idxs (keys false arcs) v)) 3 1, blk g69 [.int .i64 0, .int .i64 0] 35]) HS
            exact ⟨rfl, HS.tail (F := [row A173 ((nexts arcs v).length) c174 (ci .i64 (nexts arcs v)) 3 1, row A166 ((idxs (keys false (arcs.map swap)) v).length) c167 (ci .i64 (idxs (keys false (arcs.map swap)) v)) 3 1, row A163 ((arcs.map swap).length) c164 (cf arcC (arcs.map swap)) 38 2, row A156 ((idxs (keys false arcs) v).length) c157 (ci .i64 (idxs (keys false arcs) v)) 3 1, blk g69 [.int .i64 0, .int .i64 0] 35])⟩
    · refine ⟨_, rfl, ?_⟩
      replace HS : St W (owns []) W8 [] := HS.join (F := []) (G := []) H_
      clear H_
      refine ql (.tuple #[.pointer none, .int .i64 (chk n arcs)]) (by kernel_rfl) (by kernel_rfl) ?_
      refine ql (.pointer none) (by kernel_rfl) (by kernel_rfl) ?_
      refine ql (.int .i64 (chk n arcs)) (by kernel_rfl) (by kernel_rfl) ?_
      refine ql (.pointer none) (by kernel_rfl) (by kernel_rfl) ?_
      refine ql (.int .i64 (chk n arcs)) (by kernel_rfl) (by kernel_rfl) ?_
      refine wpList_nil ?_
      refine x_then ?_
      refine wp_seq ?_
      refine wp_seq ?_
      refine wp_region_lit ?_
      refine ql (.int .i64 (chk n arcs)) (by kernel_rfl) (by kernel_rfl) ?_
      refine ql (.int .i64 n) (by kernel_rfl) (by kernel_rfl) ?_
      refine ql (.slice A arcs.length c) (by kernel_rfl) (by kernel_rfl) ?_
      refine qc (f := 16) (args := #[.int .i64 n, .slice A arcs.length c]) (by kernel_rfl) (R_call #[.int .i64 n, .slice A arcs.length c] Try.func16 (by kernel_rfl) (by kernel_rfl) (by kernel_rfl)) ?_
      refine (check_calls n _ _ arcs _ (hr.old0 HS) (by first | omega | (rw [List.length_map]; omega))).mono ?_
      rintro e W178 ⟨rfl, H_⟩
      refine ⟨_, rfl, ?_⟩
      replace HS : St W (owns []) W178 [] := HS.join (F := []) (G := []) H_
      clear H_
      refine ql (.bool false) (by kernel_rfl) (R_beq (b := (chk n arcs != chk n arcs)) (by kernel_rfl) (bne_f (by omega))) ?_
      refine ql (.bool false) (by kernel_rfl) (by kernel_rfl) ?_
      refine ql (.pointer none) (by kernel_rfl) (by kernel_rfl) ?_
      refine ql (.bool false) (by kernel_rfl) (by kernel_rfl) ?_
      refine ql (.int .i64 (chk n arcs)) (by kernel_rfl) (by kernel_rfl) ?_
      refine ql (.bool false) (by kernel_rfl) (R_beq (b := (chk n arcs == (0 : Int))) (by kernel_rfl) (beq_f (by omega))) ?_
      refine ql (.bool false) (by kernel_rfl) (by kernel_rfl) ?_
      refine ql (.bool false) (by kernel_rfl) (by kernel_rfl) ?_
      refine wpList_nil ?_
      refine x_then ?_
      refine wp_cond_false (by kernel_rfl) ?_
      refine wp_skip ?_
      refine x_then ?_
      refine wp_seq ?_
      refine wp_seq ?_
      refine wp_region_lit ?_
      refine ql (.int .i64 (chk n arcs)) (by kernel_rfl) (by kernel_rfl) ?_
      refine ql (.bool true) (by kernel_rfl) (R_beq (b := (chk n arcs != (0 : Int))) (by kernel_rfl) (bne_t (by omega))) ?_
      refine wpList_nil ?_
      refine x_then ?_
      refine wp_cond_true (by kernel_rfl) ?_
      refine wp_seq ?_
      refine wp_region_lit ?_
      refine ql (.pointer none) (by kernel_rfl) (by kernel_rfl) ?_
      refine qc (f := 17) (args := #[.pointer none]) (by kernel_rfl) (R_call #[.pointer none] Try.func17 (by kernel_rfl) (by kernel_rfl) (by kernel_rfl)) ?_
      refine (nodesnil _).mono ?_
      rintro e W179 ⟨rfl, H_⟩
      refine ⟨_, rfl, ?_⟩
      replace HS : St W (owns []) W179 [] := HS.join (F := []) (G := []) H_
      clear H_
      refine ql (.bool true) (by kernel_rfl) (R_beq (b := ((0 : Int) == 0)) (by kernel_rfl) (by decide)) ?_
      refine ql (.bool true) (by kernel_rfl) (by kernel_rfl) ?_
      refine ql (.pointer none) (by kernel_rfl) (by kernel_rfl) ?_
      refine qc (f := 18) (args := #[.pointer none]) (by kernel_rfl) (R_call #[.pointer none] Try.func18 (by kernel_rfl) (by kernel_rfl) (by kernel_rfl)) ?_
      refine (arcs_nil _).mono ?_
      rintro e W180 ⟨rfl, H_⟩
      refine ⟨_, rfl, ?_⟩
      replace HS : St W (owns []) W180 [] := HS.join (F := []) (G := []) H_
      clear H_
      refine ql (.bool true) (by kernel_rfl) (R_beq (b := ((0 : Int) == 0)) (by kernel_rfl) (by decide)) ?_
      refine ql (.bool true) (by kernel_rfl) (by kernel_rfl) ?_
      refine ql (.bool true) (by kernel_rfl) (by kernel_rfl) ?_
      refine ql (.pointer none) (by kernel_rfl) (by kernel_rfl) ?_
      refine ql (.int .i64 v) (by kernel_rfl) (by kernel_rfl) ?_
      refine qc (f := 19) (args := #[.pointer none, .int .i64 v]) (by kernel_rfl) (R_call #[.pointer none, .int .i64 v] Try.func19 (by kernel_rfl) (by kernel_rfl) (by kernel_rfl)) ?_
      refine (out_nil _ v).mono ?_
      rintro e W181 ⟨rfl, H_⟩
      refine ⟨_, rfl, ?_⟩
      replace HS : St W (owns []) W181 [] := HS.join (F := []) (G := []) H_
      clear H_
      refine ql (.int .i64 0) (by kernel_rfl) (by kernel_rfl) ?_
      refine ql (.bool true) (by kernel_rfl) (R_beq (b := ((0 : Int) == 0)) (by kernel_rfl) (by decide)) ?_
      refine ql (.bool true) (by kernel_rfl) (by kernel_rfl) ?_
      refine ql (.bool true) (by kernel_rfl) (by kernel_rfl) ?_
      refine ql (.pointer none) (by kernel_rfl) (by kernel_rfl) ?_
      refine ql (.int .i64 v) (by kernel_rfl) (by kernel_rfl) ?_
      refine qc (f := 20) (args := #[.pointer none, .int .i64 v]) (by kernel_rfl) (R_call #[.pointer none, .int .i64 v] Try.func20 (by kernel_rfl) (by kernel_rfl) (by kernel_rfl)) ?_
      refine (in_nil _ v).mono ?_
      rintro e W182 ⟨rfl, H_⟩
      refine ⟨_, rfl, ?_⟩
      replace HS : St W (owns []) W182 [] := HS.join (F := []) (G := []) H_
      clear H_
      refine ql (.int .i64 0) (by kernel_rfl) (by kernel_rfl) ?_
      refine ql (.bool true) (by kernel_rfl) (R_beq (b := ((0 : Int) == 0)) (by kernel_rfl) (by decide)) ?_
      refine ql (.bool true) (by kernel_rfl) (by kernel_rfl) ?_
      refine ql (.bool true) (by kernel_rfl) (by kernel_rfl) ?_
      refine ql (.pointer none) (by kernel_rfl) (by kernel_rfl) ?_
      refine ql (.int .i64 v) (by kernel_rfl) (by kernel_rfl) ?_
      refine qc (f := 15) (args := #[.pointer none, .int .i64 v]) (by kernel_rfl) (R_call #[.pointer none, .int .i64 v] Try.func15 (by kernel_rfl) (by kernel_rfl) (by kernel_rfl)) ?_
      refine (next_nil _ v).mono ?_
      rintro e W183 ⟨rfl, H_⟩
      refine ⟨_, rfl, ?_⟩
      replace HS : St W (owns []) W183 [] := HS.join (F := []) (G := []) H_
      clear H_
      refine ql (.int .i64 0) (by kernel_rfl) (by kernel_rfl) ?_
      refine ql (.bool true) (by kernel_rfl) (R_beq (b := ((0 : Int) == 0)) (by kernel_rfl) (by decide)) ?_
      refine ql (.bool true) (by kernel_rfl) (by kernel_rfl) ?_
      refine ql (.bool true) (by kernel_rfl) (by kernel_rfl) ?_
      refine ql (.pointer none) (by kernel_rfl) (by kernel_rfl) ?_
      refine ql (.int .i64 v) (by kernel_rfl) (by kernel_rfl) ?_
      refine qc (f := 14) (args := #[.pointer none, .int .i64 v]) (by kernel_rfl) (R_call #[.pointer none, .int .i64 v] Try.func14 (by kernel_rfl) (by kernel_rfl) (by kernel_rfl)) ?_
      refine (reach_nil _ v).mono ?_
      rintro e W184 ⟨rfl, H_⟩
      refine ⟨_, rfl, ?_⟩
      replace HS : St W (owns []) W184 [] := HS.join (F := []) (G := []) H_
      clear H_
      refine ql (.int .i64 0) (by kernel_rfl) (by kernel_rfl) ?_
      refine ql (.bool true) (by kernel_rfl) (R_beq (b := ((0 : Int) == 0)) (by kernel_rfl) (by decide)) ?_
      refine ql (.bool true) (by kernel_rfl) (by kernel_rfl) ?_
      refine ql (.bool true) (by kernel_rfl) (by kernel_rfl) ?_
      refine ql (.pointer none) (by kernel_rfl) (by kernel_rfl) ?_
      refine qc (f := 21) (args := #[.pointer none]) (by kernel_rfl) (R_call #[.pointer none] Try.func21 (by kernel_rfl) (by kernel_rfl) (by kernel_rfl)) ?_
      refine (turn_nil _).mono ?_
      rintro e W185 ⟨rfl, H_⟩
      refine ⟨_, rfl, ?_⟩
      replace HS : St W (owns []) W185 [] := HS.join (F := []) (G := []) H_
      clear H_
      refine ql (.bool true) (by kernel_rfl) (by kernel_rfl) ?_
      refine ql (.bool true) (by kernel_rfl) (by kernel_rfl) ?_
      refine ql (.bool true) (by kernel_rfl) (by kernel_rfl) ?_
      refine qc (f := 12) (args := #[]) (by kernel_rfl) (R_call #[] Try.func12 (by kernel_rfl) (by kernel_rfl) (by kernel_rfl)) ?_
      refine (awake_calls _).mono ?_
      rintro e W186 ⟨rfl, H_⟩
      refine ⟨_, rfl, ?_⟩
      replace HS : St W (owns []) W186 [] := HS.join (F := []) (G := []) H_
      clear H_
      refine ql (.bool true) (by kernel_rfl) (by kernel_rfl) ?_
      refine ql (.bool true) (by kernel_rfl) (by kernel_rfl) ?_
      refine wpList_nil ?_
      refine x_then ?_
      refine wp_ret ?_
      refine x_thenR ?_
      refine ret_ (.bool true) (by kernel_rfl) ?_
      exact ⟨rfl, HS.tail (F := [])⟩

end Go.Proofs.Ythfpdpjccnnlhaa.GGraphTells
