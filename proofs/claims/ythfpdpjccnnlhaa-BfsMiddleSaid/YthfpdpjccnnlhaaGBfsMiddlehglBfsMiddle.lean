/- Written for this claim by gp.py, a program of this session's, over the kit's print. Lean checks it. -/
import Derived.Test.YthfpdpjccnnlhaaGBfsMiddlex0
import Derived.Test.YthfpdpjccnnlhaaGBfsMiddlehhp1
import Derived.Test.YthfpdpjccnnlhaaGBfsMiddlehhp2
import Derived.Test.YthfpdpjccnnlhaaGBfsMiddlehgp
import Derived.Test.YthfpdpjccnnlhaaGBfsMiddlehg3
import Derived.Test.YthfpdpjccnnlhaaGBfsMiddlehg5
import Derived.Test.YthfpdpjccnnlhaaGBfsMiddlehhp3
import Derived.Test.YthfpdpjccnnlhaaGBfsMiddlehb4
import Derived.WalkKit
import Derived.StillTailTactics
import Derived.Deep.LoopGhost
import Derived.KernelRfl
import Derived.Deep.OwnRows
import Derived.Laws.OwnMore
import Derived.Laws.MakeOwn
import Derived.Maps.AppendAt
import Derived.OrdersHeld
namespace Go.Proofs.Ythfpdpjccnnlhaa.GBfsMiddle
open Go.RowKit Go.Proofs.YthfpdpjccnnlhaaW.PrintWords Go.Proofs.YthfpdpjccnnlhaaW.PrintLast Go.Proofs.YthfpdpjccnnlhaaW.PrintMore
attribute [local go_sem] max2_int min2_int max_two min_two max_three min_three max_four min_four   -- for this text's walks alone
set_option linter.unusedVariables false
set_option linter.unusedSimpArgs false

--import Derived.WalkKit
--import Derived.StillTailTactics
--import Derived.Deep.LoopGhost
--import Derived.KernelRfl
--import Derived.Deep.OwnRows
--import Derived.Laws.OwnMore
--import Derived.Laws.MakeOwn
--import Derived.Maps.AppendAt
--import Derived.OrdersHeld
attribute [local irreducible] wpStill wpList Code.wp TA

set_option maxRecDepth 100000 in
set_option maxHeartbeats 1000000 in
theorem BfsMiddle_walk (n u v w : Int) (A : Option Addr) (c : Nat) (arcs : List (Int × Int)) (W : World) (hr : Rd W A (cf arcC arcs)) : Calls Try.prog 6 #[.int .i64 n, .slice A arcs.length c, .int .i64 u, .int .i64 v, .int .i64 w] W fun e W' => e = .returned (.bool true) ∧ St W (owns []) W' [] := by
  have HS : St W (owns []) W [] := St.start W _
  refine calls_enter ((.int .i64 n) :: (.slice A arcs.length c) :: (.int .i64 u) :: (.int .i64 v) :: (.int .i64 w) :: undef :: undef :: undef :: undef :: undef :: undef :: undef :: undef :: undef :: undef :: undef :: undef :: undef :: undef :: undef :: undef :: undef :: undef :: undef :: undef :: undef :: undef :: undef :: undef :: undef :: undef :: undef :: undef :: undef :: undef :: undef :: undef :: undef :: undef :: undef :: undef :: undef :: undef :: undef :: undef :: undef :: undef :: undef :: undef :: undef :: undef :: undef :: undef :: undef :: undef :: undef :: undef :: undef :: undef :: undef :: undef :: undef :: undef :: undef :: undef :: undef :: undef :: undef :: undef :: undef :: undef :: undef :: undef :: undef :: undef :: undef :: undef :: undef :: undef :: undef :: undef :: undef :: undef :: undef :: undef :: undef :: undef :: undef :: undef :: undef :: undef :: undef :: undef :: undef :: undef :: undef :: undef :: undef :: undef :: undef :: undef :: undef :: undef :: undef :: undef :: undef :: []) Try.func6 rfl (by kernel_rfl) ?_
  refine wp_seq ?_
  refine wp_region_lit ?_
  refine ql (.bool false) (by kernel_rfl) (by kernel_rfl) ?_
  refine wpList_nil ?_
  refine x_then ?_
  refine wp_seq ?_
  refine wp_seq ?_
  refine wp_region_lit ?_
  refine ql (.int .i64 n) (by kernel_rfl) (by kernel_rfl) ?_
  by_cases hc1 : n > (12 : Int)
  · skip
    refine ql (.bool true) (by kernel_rfl) (R_bool (p := n > (12 : Int)) (by kernel_rfl) (hc1)) ?_
    refine ql (.bool true) (by kernel_rfl) (by kernel_rfl) ?_
    refine qln (by kernel_rfl) ?_
    refine qln (by kernel_rfl) ?_
    refine qln (by kernel_rfl) ?_
    refine ql (.bool true) (by kernel_rfl) (by kernel_rfl) ?_
    refine wpList_nil ?_
    refine x_then ?_
    refine wp_cond_true (by kernel_rfl) ?_
    refine wp_seq ?_
    refine wp_region_lit ?_
    refine qc (f := 29) (args := #[]) (by kernel_rfl) (R_call #[] Try.func29 (by kernel_rfl) (by kernel_rfl) (by kernel_rfl)) ?_
    refine (awake13 _).mono ?_
    rintro e W2 ⟨rfl, H_⟩
    refine ⟨_, rfl, ?_⟩
    replace HS : St W (owns []) W2 [] := HS.join (F := []) (G := []) H_
    clear H_
    refine ql (.bool true) (by kernel_rfl) (by kernel_rfl) ?_
    refine wpList_nil ?_
    refine x_then ?_
    refine wp_ret ?_
    refine x_thenR ?_
    refine ret_ (.bool true) (by kernel_rfl) ?_
    exact ⟨rfl, HS.tail (F := [])⟩
  · skip
    refine ql (.bool false) (by kernel_rfl) (R_nbool (p := n > (12 : Int)) (by kernel_rfl) (hc1)) ?_
    refine ql (.bool false) (by kernel_rfl) (by kernel_rfl) ?_
    refine ql (.slice A arcs.length c) (by kernel_rfl) (by kernel_rfl) ?_
    refine ql (.int .i64 (arcs.length : Int)) (by kernel_rfl) (by kernel_rfl) ?_
    by_cases hc3 : (arcs.length : Int) > (30 : Int)
    · skip
      refine ql (.bool true) (by kernel_rfl) (R_bool (p := (arcs.length : Int) > (30 : Int)) (by kernel_rfl) (hc3)) ?_
      refine ql (.bool true) (by kernel_rfl) (by kernel_rfl) ?_
      refine wpList_nil ?_
      refine x_then ?_
      refine wp_cond_true (by kernel_rfl) ?_
      refine wp_seq ?_
      refine wp_region_lit ?_
      refine qc (f := 29) (args := #[]) (by kernel_rfl) (R_call #[] Try.func29 (by kernel_rfl) (by kernel_rfl) (by kernel_rfl)) ?_
      refine (awake13 _).mono ?_
      rintro e W4 ⟨rfl, H_⟩
      refine ⟨_, rfl, ?_⟩
      replace HS : St W (owns []) W4 [] := HS.join (F := []) (G := []) H_
      clear H_
      refine ql (.bool true) (by kernel_rfl) (by kernel_rfl) ?_
      refine wpList_nil ?_
      refine x_then ?_
      refine wp_ret ?_
      refine x_thenR ?_
      refine ret_ (.bool true) (by kernel_rfl) ?_
      exact ⟨rfl, HS.tail (F := [])⟩
    · skip
      refine ql (.bool false) (by kernel_rfl) (R_nbool (p := (arcs.length : Int) > (30 : Int)) (by kernel_rfl) (hc3)) ?_
      refine ql (.bool false) (by kernel_rfl) (by kernel_rfl) ?_
      refine wpList_nil ?_
      refine x_then ?_
      refine wp_cond_false (by kernel_rfl) ?_
      refine wp_skip ?_
      refine x_then ?_
      refine wp_seq ?_
      refine wp_region_lit ?_
      refine ql (.int .i64 n) (by kernel_rfl) (by kernel_rfl) ?_
      refine ql (.slice A arcs.length c) (by kernel_rfl) (by kernel_rfl) ?_
      refine qc (f := 13) (args := #[.int .i64 n, .slice A arcs.length c]) (by kernel_rfl) (R_call #[.int .i64 n, .slice A arcs.length c] Try.func13 (by kernel_rfl) (by kernel_rfl) (by kernel_rfl)) ?_
      refine (of_calls n _ _ arcs _ (hr.old0 HS) (by first | omega | (rw [List.length_map]; omega))).mono ?_
      rintro e W5 (⟨hc, g, N, rfl, rfl, H_, hG⟩ | ⟨hc, rfl, H_⟩)
      · refine ⟨_, rfl, ?_⟩
        replace HS : St W (owns []) W5 [] := HS.join (F := []) (G := []) H_
        clear H_
        have HB6 := HS
        replace hr := hr.below (HB6.kept.below owns_nil)
        clear HS
        have HS : St W5 (owns []) W5 [] := St.start _ _
        have hFF := hG.fine
        refine ql (.tuple #[.pointer (some ⟨g, 0, none⟩), .int .i64 0]) (by kernel_rfl) (by kernel_rfl) ?_
        refine ql (.pointer (some ⟨g, 0, none⟩)) (by kernel_rfl) (by kernel_rfl) ?_
        refine ql (.int .i64 0) (by kernel_rfl) (by kernel_rfl) ?_
        refine ql (.pointer (some ⟨g, 0, none⟩)) (by kernel_rfl) (by kernel_rfl) ?_
        refine ql (.int .i64 0) (by kernel_rfl) (by kernel_rfl) ?_
        refine wpList_nil ?_
        refine x_then ?_
        refine wp_seq ?_
        refine wp_seq ?_
        refine wp_region_lit ?_
        refine ql (.int .i64 0) (by kernel_rfl) (by kernel_rfl) ?_
        refine ql (.bool false) (by kernel_rfl) (R_beq (b := ((0 : Int) != 0)) (by kernel_rfl) (by decide)) ?_
        refine ql (.bool false) (by kernel_rfl) (by kernel_rfl) ?_
        refine ql (.int .i64 u) (by kernel_rfl) (by kernel_rfl) ?_
        by_cases hc7 : u < (0 : Int)
        · skip
          refine ql (.bool true) (by kernel_rfl) (R_bool (p := u < (0 : Int)) (by kernel_rfl) (hc7)) ?_
          refine ql (.bool true) (by kernel_rfl) (by kernel_rfl) ?_
          refine ql (.bool true) (by kernel_rfl) (by kernel_rfl) ?_
          refine qln (by kernel_rfl) ?_
          refine qln (by kernel_rfl) ?_
          refine qln (by kernel_rfl) ?_
          refine ql (.bool true) (by kernel_rfl) (by kernel_rfl) ?_
          refine ql (.bool true) (by kernel_rfl) (by kernel_rfl) ?_
          refine qln (by kernel_rfl) ?_
          refine qln (by kernel_rfl) ?_
          refine ql (.bool true) (by kernel_rfl) (by kernel_rfl) ?_
          refine ql (.bool true) (by kernel_rfl) (by kernel_rfl) ?_
          refine qln (by kernel_rfl) ?_
          refine qln (by kernel_rfl) ?_
          refine qln (by kernel_rfl) ?_
          refine ql (.bool true) (by kernel_rfl) (by kernel_rfl) ?_
          refine wpList_nil ?_
          refine x_then ?_
          refine wp_cond_true (by kernel_rfl) ?_
          refine wp_seq ?_
          refine wp_region_lit ?_
          refine qc (f := 29) (args := #[]) (by kernel_rfl) (R_call #[] Try.func29 (by kernel_rfl) (by kernel_rfl) (by kernel_rfl)) ?_
          refine (awake13 _).mono ?_
          rintro e W8 ⟨rfl, H_⟩
          refine ⟨_, rfl, ?_⟩
          replace HS : St W5 (owns []) W8 [] := HS.join (F := []) (G := []) H_
          clear H_
          refine ql (.bool true) (by kernel_rfl) (by kernel_rfl) ?_
          refine wpList_nil ?_
          refine x_then ?_
          refine wp_ret ?_
          refine x_thenR ?_
          refine ret_ (.bool true) (by kernel_rfl) ?_
          replace HS : St W (owns []) W8 [] := HB6.join (F := []) (G := []) HS
          exact ⟨rfl, HS.tail (F := [])⟩
        · skip
          refine ql (.bool false) (by kernel_rfl) (R_nbool (p := u < (0 : Int)) (by kernel_rfl) (hc7)) ?_
          refine ql (.bool false) (by kernel_rfl) (by kernel_rfl) ?_
          refine ql (.bool false) (by kernel_rfl) (by kernel_rfl) ?_
          refine ql (.int .i64 u) (by kernel_rfl) (by kernel_rfl) ?_
          refine ql (.int .i64 (N : Int)) (by kernel_rfl) (by kernel_rfl) ?_
          by_cases hc9 : u ≥ (N : Int)
          · skip
            refine ql (.bool true) (by kernel_rfl) (R_bool (p := u ≥ (N : Int)) (by kernel_rfl) (hc9)) ?_
            refine ql (.bool true) (by kernel_rfl) (by kernel_rfl) ?_
            refine ql (.bool true) (by kernel_rfl) (by kernel_rfl) ?_
            refine qln (by kernel_rfl) ?_
            refine qln (by kernel_rfl) ?_
            refine ql (.bool true) (by kernel_rfl) (by kernel_rfl) ?_
            refine ql (.bool true) (by kernel_rfl) (by kernel_rfl) ?_
            refine qln (by kernel_rfl) ?_
            refine qln (by kernel_rfl) ?_
            refine qln (by kernel_rfl) ?_
            refine ql (.bool true) (by kernel_rfl) (by kernel_rfl) ?_
            refine wpList_nil ?_
            refine x_then ?_
            refine wp_cond_true (by kernel_rfl) ?_
            refine wp_seq ?_
            refine wp_region_lit ?_
            refine qc (f := 29) (args := #[]) (by kernel_rfl) (R_call #[] Try.func29 (by kernel_rfl) (by kernel_rfl) (by kernel_rfl)) ?_
            refine (awake13 _).mono ?_
            rintro e W10 ⟨rfl, H_⟩
            refine ⟨_, rfl, ?_⟩
            replace HS : St W5 (owns []) W10 [] := HS.join (F := []) (G := []) H_
            clear H_
            refine ql (.bool true) (by kernel_rfl) (by kernel_rfl) ?_
            refine wpList_nil ?_
            refine x_then ?_
            refine wp_ret ?_
            refine x_thenR ?_
            refine ret_ (.bool true) (by kernel_rfl) ?_
            replace HS : St W (owns []) W10 [] := HB6.join (F := []) (G := []) HS
            exact ⟨rfl, HS.tail (F := [])⟩
          · skip
            refine ql (.bool false) (by kernel_rfl) (R_nbool (p := u ≥ (N : Int)) (by kernel_rfl) (hc9)) ?_
            refine ql (.bool false) (by kernel_rfl) (by kernel_rfl) ?_
            refine ql (.bool false) (by kernel_rfl) (by kernel_rfl) ?_
            refine ql (.int .i64 v) (by kernel_rfl) (by kernel_rfl) ?_
            by_cases hc11 : v < (0 : Int)
            · skip
              refine ql (.bool true) (by kernel_rfl) (R_bool (p := v < (0 : Int)) (by kernel_rfl) (hc11)) ?_
              refine ql (.bool true) (by kernel_rfl) (by kernel_rfl) ?_
              refine ql (.bool true) (by kernel_rfl) (by kernel_rfl) ?_
              refine qln (by kernel_rfl) ?_
              refine qln (by kernel_rfl) ?_
              refine qln (by kernel_rfl) ?_
              refine ql (.bool true) (by kernel_rfl) (by kernel_rfl) ?_
              refine wpList_nil ?_
              refine x_then ?_
              refine wp_cond_true (by kernel_rfl) ?_
              refine wp_seq ?_
              refine wp_region_lit ?_
              refine qc (f := 29) (args := #[]) (by kernel_rfl) (R_call #[] Try.func29 (by kernel_rfl) (by kernel_rfl) (by kernel_rfl)) ?_
              refine (awake13 _).mono ?_
              rintro e W12 ⟨rfl, H_⟩
              refine ⟨_, rfl, ?_⟩
              replace HS : St W5 (owns []) W12 [] := HS.join (F := []) (G := []) H_
              clear H_
              refine ql (.bool true) (by kernel_rfl) (by kernel_rfl) ?_
              refine wpList_nil ?_
              refine x_then ?_
              refine wp_ret ?_
              refine x_thenR ?_
              refine ret_ (.bool true) (by kernel_rfl) ?_
              replace HS : St W (owns []) W12 [] := HB6.join (F := []) (G := []) HS
              exact ⟨rfl, HS.tail (F := [])⟩
            · skip
              refine ql (.bool false) (by kernel_rfl) (R_nbool (p := v < (0 : Int)) (by kernel_rfl) (hc11)) ?_
              refine ql (.bool false) (by kernel_rfl) (by kernel_rfl) ?_
              refine ql (.bool false) (by kernel_rfl) (by kernel_rfl) ?_
              refine ql (.int .i64 v) (by kernel_rfl) (by kernel_rfl) ?_
              refine ql (.int .i64 (N : Int)) (by kernel_rfl) (by kernel_rfl) ?_
              by_cases hc13 : v ≥ (N : Int)
              · skip
                refine ql (.bool true) (by kernel_rfl) (R_bool (p := v ≥ (N : Int)) (by kernel_rfl) (hc13)) ?_
                refine ql (.bool true) (by kernel_rfl) (by kernel_rfl) ?_
                refine wpList_nil ?_
                refine x_then ?_
                refine wp_cond_true (by kernel_rfl) ?_
                refine wp_seq ?_
                refine wp_region_lit ?_
                refine qc (f := 29) (args := #[]) (by kernel_rfl) (R_call #[] Try.func29 (by kernel_rfl) (by kernel_rfl) (by kernel_rfl)) ?_
                refine (awake13 _).mono ?_
                rintro e W14 ⟨rfl, H_⟩
                refine ⟨_, rfl, ?_⟩
                replace HS : St W5 (owns []) W14 [] := HS.join (F := []) (G := []) H_
                clear H_
                refine ql (.bool true) (by kernel_rfl) (by kernel_rfl) ?_
                refine wpList_nil ?_
                refine x_then ?_
                refine wp_ret ?_
                refine x_thenR ?_
                refine ret_ (.bool true) (by kernel_rfl) ?_
                replace HS : St W (owns []) W14 [] := HB6.join (F := []) (G := []) HS
                exact ⟨rfl, HS.tail (F := [])⟩
              · skip
                refine ql (.bool false) (by kernel_rfl) (R_nbool (p := v ≥ (N : Int)) (by kernel_rfl) (hc13)) ?_
                refine ql (.bool false) (by kernel_rfl) (by kernel_rfl) ?_
                refine wpList_nil ?_
                refine x_then ?_
                refine wp_cond_false (by kernel_rfl) ?_
                refine wp_skip ?_
                refine x_then ?_
                refine wp_seq ?_
                refine wp_region_lit ?_
                refine ql (.pointer (some ⟨g, 0, none⟩)) (by kernel_rfl) (by kernel_rfl) ?_
                refine ql (.int .i64 u) (by kernel_rfl) (by kernel_rfl) ?_
                refine qc (f := 30) (args := #[.pointer (some ⟨g, 0, none⟩), .int .i64 u, .pointer none]) (by kernel_rfl) (R_call #[.pointer (some ⟨g, 0, none⟩), .int .i64 u, .pointer none] Try.func30 (by kernel_rfl) (by kernel_rfl) (by kernel_rfl)) ?_
                refine (fromT g N arcs u _ (hG.below (HS.kept.below owns_nil)) (by omega) (by first | omega | (rw [List.length_map]; omega))).mono ?_
                rintro e W19 ⟨t15, ds17, bs18, rfl, H_, hTh16, hDh16, hKh16⟩
                refine ⟨_, rfl, ?_⟩
                replace HS : St W5 (owns []) W19 [] := HS.join (F := []) (G := []) H_
                clear H_
                have HB20 := HS
                replace hr := hr.below (HB20.kept.below owns_nil)
                replace hG := hG.below (HB20.kept.below owns_nil)
                clear HS
                have HS : St W19 (owns []) W19 [] := St.start _ _
                have hdl1 := hDh16.ld
                have hz := (hDh16.ze u (by omega) (by omega)).2 rfl
                have hlv := lvl hDh16.ld hDh16.ze hDh16.pr hFF (w := v) (by omega) (by omega)
                refine ql (.pointer (some ⟨g, 0, none⟩)) (by kernel_rfl) (by kernel_rfl) ?_
                refine ql (.int .i64 v) (by kernel_rfl) (by kernel_rfl) ?_
                refine qc (f := 30) (args := #[.pointer (some ⟨g, 0, none⟩), .int .i64 v, .pointer none]) (by kernel_rfl) (R_call #[.pointer (some ⟨g, 0, none⟩), .int .i64 v, .pointer none] Try.func30 (by kernel_rfl) (by kernel_rfl) (by kernel_rfl)) ?_
                refine (fromT g N arcs v _ (hG.below (HS.kept.below owns_nil)) (by omega) (by first | omega | (rw [List.length_map]; omega))).mono ?_
                rintro e W25 ⟨t21, ds23, bs24, rfl, H_, hTh22, hDh22, hKh22⟩
                refine ⟨_, rfl, ?_⟩
                replace HS : St W19 (owns []) W25 [] := HS.join (F := []) (G := []) H_
                clear H_
                have HB26 := HS
                replace hr := hr.below (HB26.kept.below owns_nil)
                replace hG := hG.below (HB26.kept.below owns_nil)
                replace hTh16 := hTh16.below (HB26.kept.below owns_nil)
                clear HS
                have HS : St W25 (owns []) W25 [] := St.start _ _
                have hdl2 := hDh22.ld
                refine ql (.pointer (some ⟨t15, 0, none⟩)) (by kernel_rfl) (by kernel_rfl) ?_
                refine ql (.pointer (some ⟨t21, 0, none⟩)) (by kernel_rfl) (by kernel_rfl) ?_
                refine wpList_nil ?_
                refine x_then ?_
                refine wp_seq ?_
                refine wp_seq ?_
                refine wp_region_lit ?_
                refine ql (.pointer (some ⟨t15, 0, none⟩)) (by kernel_rfl) (by kernel_rfl) ?_
                refine ql (.int .i64 u) (by kernel_rfl) (by kernel_rfl) ?_
                refine qc (f := 31) (args := #[.pointer (some ⟨t15, 0, none⟩), .int .i64 u]) (by kernel_rfl) (R_call #[.pointer (some ⟨t15, 0, none⟩), .int .i64 u] Try.func31 (by kernel_rfl) (by kernel_rfl) (by kernel_rfl)) ?_
                refine (tdist_y t15 ds17 bs18 _ (hTh16.below (HS.kept.below owns_nil)) u (by omega) (by have h_ := hDh16.ld; omega)).mono ?_
                rintro e W27 ⟨rfl, H_⟩
                refine ⟨_, rfl, ?_⟩
                replace HS : St W25 (owns []) W27 [] := HS.join (F := []) (G := []) H_
                clear H_
                refine ql (.bool false) (by kernel_rfl) (R_beq (b := (rdI ds17 u != (0 : Int))) (by kernel_rfl) (bne_f (hz))) ?_
                refine ql (.bool false) (by kernel_rfl) (by kernel_rfl) ?_
                refine ql (.pointer (some ⟨t15, 0, none⟩)) (by kernel_rfl) (by kernel_rfl) ?_
                refine ql (.int .i64 v) (by kernel_rfl) (by kernel_rfl) ?_
                refine qc (f := 31) (args := #[.pointer (some ⟨t15, 0, none⟩), .int .i64 v]) (by kernel_rfl) (R_call #[.pointer (some ⟨t15, 0, none⟩), .int .i64 v] Try.func31 (by kernel_rfl) (by kernel_rfl) (by kernel_rfl)) ?_
                refine (tdist_y t15 ds17 bs18 _ (hTh16.below (HS.kept.below owns_nil)) v (by omega) (by have h_ := hDh16.ld; omega)).mono ?_
                rintro e W28 ⟨rfl, H_⟩
                refine ⟨_, rfl, ?_⟩
                replace HS : St W25 (owns []) W28 [] := HS.join (F := []) (G := []) H_
                clear H_
                by_cases hc29 : (rdI ds17 v) ≥ (0 : Int)
                · skip
                  refine ql (.bool true) (by kernel_rfl) (R_bool (p := (rdI ds17 v) ≥ (0 : Int)) (by kernel_rfl) (hc29)) ?_
                  refine ql (.bool true) (by kernel_rfl) (by kernel_rfl) ?_
                  refine ql (.pointer (some ⟨t21, 0, none⟩)) (by kernel_rfl) (by kernel_rfl) ?_
                  refine ql (.int .i64 w) (by kernel_rfl) (by kernel_rfl) ?_
                  refine qc (f := 31) (args := #[.pointer (some ⟨t21, 0, none⟩), .int .i64 w]) (by kernel_rfl) (R_call #[.pointer (some ⟨t21, 0, none⟩), .int .i64 w] Try.func31 (by kernel_rfl) (by kernel_rfl) (by kernel_rfl)) ?_
                  by_cases hwr : 0 ≤ w ∧ w < (N : Int)
                  · skip
                    have hmid := ds_mid (w := w) hFF hDh16 hDh22 (by omega) (by omega) (by omega) (by omega) hwr.1 hwr.2
                    have hlw := lvl hDh22.ld hDh22.ze hDh22.pr hFF hwr.1 hwr.2
                    refine (tdist_y t21 ds23 bs24 _ (hTh22.below (HS.kept.below owns_nil)) w (by omega) (by have h_ := hDh22.ld; omega)).mono ?_
                    rintro e W30 ⟨rfl, H_⟩
                    refine ⟨_, rfl, ?_⟩
                    replace HS : St W25 (owns []) W30 [] := HS.join (F := []) (G := []) H_
                    clear H_
                    by_cases hc31 : (rdI ds23 w) ≥ (0 : Int)
                    · skip
                      refine ql (.bool true) (by kernel_rfl) (R_bool (p := (rdI ds23 w) ≥ (0 : Int)) (by kernel_rfl) (hc31)) ?_
                      refine ql (.bool true) (by kernel_rfl) (by kernel_rfl) ?_
                      refine ql (.bool true) (by kernel_rfl) (by kernel_rfl) ?_
                      refine ql (.pointer (some ⟨t15, 0, none⟩)) (by kernel_rfl) (by kernel_rfl) ?_
                      refine ql (.int .i64 w) (by kernel_rfl) (by kernel_rfl) ?_
                      refine qc (f := 31) (args := #[.pointer (some ⟨t15, 0, none⟩), .int .i64 w]) (by kernel_rfl) (R_call #[.pointer (some ⟨t15, 0, none⟩), .int .i64 w] Try.func31 (by kernel_rfl) (by kernel_rfl) (by kernel_rfl)) ?_
                      refine (tdist_y t15 ds17 bs18 _ (hTh16.below (HS.kept.below owns_nil)) w (by omega) (by have h_ := hDh16.ld; omega)).mono ?_
                      rintro e W32 ⟨rfl, H_⟩
                      refine ⟨_, rfl, ?_⟩
                      replace HS : St W25 (owns []) W32 [] := HS.join (F := []) (G := []) H_
                      clear H_
                      refine ql (.bool false) (by kernel_rfl) (R_nbool (p := (rdI ds17 w) < (0 : Int)) (by kernel_rfl) (by omega)) ?_
                      refine ql (.bool false) (by kernel_rfl) (by kernel_rfl) ?_
                      refine ql (.pointer (some ⟨t15, 0, none⟩)) (by kernel_rfl) (by kernel_rfl) ?_
                      refine ql (.int .i64 w) (by kernel_rfl) (by kernel_rfl) ?_
                      refine qc (f := 31) (args := #[.pointer (some ⟨t15, 0, none⟩), .int .i64 w]) (by kernel_rfl) (R_call #[.pointer (some ⟨t15, 0, none⟩), .int .i64 w] Try.func31 (by kernel_rfl) (by kernel_rfl) (by kernel_rfl)) ?_
                      refine (tdist_y t15 ds17 bs18 _ (hTh16.below (HS.kept.below owns_nil)) w (by omega) (by have h_ := hDh16.ld; omega)).mono ?_
                      rintro e W33 ⟨rfl, H_⟩
                      refine ⟨_, rfl, ?_⟩
                      replace HS : St W25 (owns []) W33 [] := HS.join (F := []) (G := []) H_
                      clear H_
                      refine ql (.pointer (some ⟨t15, 0, none⟩)) (by kernel_rfl) (by kernel_rfl) ?_
                      refine ql (.int .i64 v) (by kernel_rfl) (by kernel_rfl) ?_
                      refine qc (f := 31) (args := #[.pointer (some ⟨t15, 0, none⟩), .int .i64 v]) (by kernel_rfl) (R_call #[.pointer (some ⟨t15, 0, none⟩), .int .i64 v] Try.func31 (by kernel_rfl) (by kernel_rfl) (by kernel_rfl)) ?_
                      refine (tdist_y t15 ds17 bs18 _ (hTh16.below (HS.kept.below owns_nil)) v (by omega) (by have h_ := hDh16.ld; omega)).mono ?_
                      rintro e W34 ⟨rfl, H_⟩
                      refine ⟨_, rfl, ?_⟩
                      replace HS : St W25 (owns []) W34 [] := HS.join (F := []) (G := []) H_
                      clear H_
                      refine ql (.pointer (some ⟨t21, 0, none⟩)) (by kernel_rfl) (by kernel_rfl) ?_
                      refine ql (.int .i64 w) (by kernel_rfl) (by kernel_rfl) ?_
                      refine qc (f := 31) (args := #[.pointer (some ⟨t21, 0, none⟩), .int .i64 w]) (by kernel_rfl) (R_call #[.pointer (some ⟨t21, 0, none⟩), .int .i64 w] Try.func31 (by kernel_rfl) (by kernel_rfl) (by kernel_rfl)) ?_
                      refine (tdist_y t21 ds23 bs24 _ (hTh22.below (HS.kept.below owns_nil)) w (by omega) (by have h_ := hDh22.ld; omega)).mono ?_
                      rintro e W35 ⟨rfl, H_⟩
                      refine ⟨_, rfl, ?_⟩
                      replace HS : St W25 (owns []) W35 [] := HS.join (F := []) (G := []) H_
                      clear H_
                      refine ql (.int .i64 ((rdI ds17 v) + (rdI ds23 w))) (by kernel_rfl) (R_int (by kernel_rfl) (w64 (by omega))) ?_
                      refine ql (.bool false) (by kernel_rfl) (R_nbool (p := (rdI ds17 w) > ((rdI ds17 v) + (rdI ds23 w))) (by kernel_rfl) (by omega)) ?_
                      refine ql (.bool false) (by kernel_rfl) (by kernel_rfl) ?_
                      refine ql (.bool false) (by kernel_rfl) (by kernel_rfl) ?_
                      refine ql (.bool false) (by kernel_rfl) (by kernel_rfl) ?_
                      refine wpList_nil ?_
                      refine x_then ?_
                      refine wp_cond_false (by kernel_rfl) ?_
                      refine wp_skip ?_
                      refine x_then ?_
                      refine wp_seq ?_
                      refine wp_region_lit ?_
                      refine ql (.pointer (some ⟨g, 0, none⟩)) (by kernel_rfl) (by kernel_rfl) ?_
                      refine qc (f := 21) (args := #[.pointer (some ⟨g, 0, none⟩)]) (by kernel_rfl) (R_call #[.pointer (some ⟨g, 0, none⟩)] Try.func21 (by kernel_rfl) (by kernel_rfl) (by kernel_rfl)) ?_
                      refine (turn_some g N arcs _ (hG.below (HS.kept.below owns_nil))).mono ?_
                      rintro e W38 ⟨g36, rfl, H_, hG37⟩
                      refine ⟨_, rfl, ?_⟩
                      replace HS : St W25 (owns []) W38 [] := HS.join (F := []) (G := []) H_
                      clear H_
                      have HB39 := HS
                      replace hr := hr.below (HB39.kept.below owns_nil)
                      replace hG := hG.below (HB39.kept.below owns_nil)
                      replace hTh16 := hTh16.below (HB39.kept.below owns_nil)
                      replace hTh22 := hTh22.below (HB39.kept.below owns_nil)
                      clear HS
                      have HS : St W38 (owns []) W38 [] := St.start _ _
                      refine ql (.int .i64 v) (by kernel_rfl) (by kernel_rfl) ?_
                      refine qc (f := 30) (args := #[.pointer (some ⟨g36, 0, none⟩), .int .i64 v, .pointer none]) (by kernel_rfl) (R_call #[.pointer (some ⟨g36, 0, none⟩), .int .i64 v, .pointer none] Try.func30 (by kernel_rfl) (by kernel_rfl) (by kernel_rfl)) ?_
                      refine (fromT g36 N (arcs.map swap) v _ (hG37.below (HS.kept.below owns_nil)) (by omega) (by first | omega | (rw [List.length_map]; omega))).mono ?_
                      rintro e W44 ⟨t40, ds42, bs43, rfl, H_, hTh41, hDh41, hKh41⟩
                      refine ⟨_, rfl, ?_⟩
                      replace HS : St W38 (owns []) W44 [] := HS.join (F := []) (G := []) H_
                      clear H_
                      have HB45 := HS
                      replace hr := hr.below (HB45.kept.below owns_nil)
                      replace hG := hG.below (HB45.kept.below owns_nil)
                      replace hTh16 := hTh16.below (HB45.kept.below owns_nil)
                      replace hTh22 := hTh22.below (HB45.kept.below owns_nil)
                      replace hG37 := hG37.below (HB45.kept.below owns_nil)
                      clear HS
                      have HS : St W44 (owns []) W44 [] := St.start _ _
                      have hdl3 := hDh41.ld
                      have htu := ds_turn hFF hDh16 hDh41 (by omega) (by omega) (by omega) (by omega)
                      refine ql (.pointer (some ⟨t40, 0, none⟩)) (by kernel_rfl) (by kernel_rfl) ?_
                      refine wpList_nil ?_
                      refine x_then ?_
                      refine wp_seq ?_
                      refine wp_region_lit ?_
                      refine ql (.pointer (some ⟨t40, 0, none⟩)) (by kernel_rfl) (by kernel_rfl) ?_
                      refine ql (.int .i64 u) (by kernel_rfl) (by kernel_rfl) ?_
                      refine qc (f := 31) (args := #[.pointer (some ⟨t40, 0, none⟩), .int .i64 u]) (by kernel_rfl) (R_call #[.pointer (some ⟨t40, 0, none⟩), .int .i64 u] Try.func31 (by kernel_rfl) (by kernel_rfl) (by kernel_rfl)) ?_
                      refine (tdist_y t40 ds42 bs43 _ (hTh41.below (HS.kept.below owns_nil)) u (by omega) (by have h_ := hDh41.ld; omega)).mono ?_
                      rintro e W46 ⟨rfl, H_⟩
                      refine ⟨_, rfl, ?_⟩
                      replace HS : St W44 (owns []) W46 [] := HS.join (F := []) (G := []) H_
                      clear H_
                      refine ql (.pointer (some ⟨t15, 0, none⟩)) (by kernel_rfl) (by kernel_rfl) ?_
                      refine ql (.int .i64 v) (by kernel_rfl) (by kernel_rfl) ?_
                      refine qc (f := 31) (args := #[.pointer (some ⟨t15, 0, none⟩), .int .i64 v]) (by kernel_rfl) (R_call #[.pointer (some ⟨t15, 0, none⟩), .int .i64 v] Try.func31 (by kernel_rfl) (by kernel_rfl) (by kernel_rfl)) ?_
                      refine (tdist_y t15 ds17 bs18 _ (hTh16.below (HS.kept.below owns_nil)) v (by omega) (by have h_ := hDh16.ld; omega)).mono ?_
                      rintro e W47 ⟨rfl, H_⟩
                      refine ⟨_, rfl, ?_⟩
                      replace HS : St W44 (owns []) W47 [] := HS.join (F := []) (G := []) H_
                      clear H_
                      refine ql (.bool true) (by kernel_rfl) (R_beq (b := (rdI ds42 u == rdI ds17 v)) (by kernel_rfl) (beq_t (htu))) ?_
                      refine ql (.bool true) (by kernel_rfl) (by kernel_rfl) ?_
                      refine qc (f := 29) (args := #[]) (by kernel_rfl) (R_call #[] Try.func29 (by kernel_rfl) (by kernel_rfl) (by kernel_rfl)) ?_
                      refine (awake13 _).mono ?_
                      rintro e W48 ⟨rfl, H_⟩
                      refine ⟨_, rfl, ?_⟩
                      replace HS : St W44 (owns []) W48 [] := HS.join (F := []) (G := []) H_
                      clear H_
                      refine ql (.bool true) (by kernel_rfl) (by kernel_rfl) ?_
                      refine ql (.bool true) (by kernel_rfl) (by kernel_rfl) ?_
                      refine wpList_nil ?_
                      refine x_then ?_
                      refine wp_ret ?_
                      refine ret_ (.bool true) (by kernel_rfl) ?_
                      replace HS : St W38 (owns []) W48 [] := HB45.join (F := []) (G := []) HS
                      replace HS : St W25 (owns []) W48 [] := HB39.join (F := []) (G := []) HS
                      replace HS : St W19 (owns []) W48 [] := HB26.join (F := []) (G := []) HS
                      replace HS : St W5 (owns []) W48 [] := HB20.join (F := []) (G := []) HS
                      replace HS : St W (owns []) W48 [] := HB6.join (F := []) (G := []) HS
                      exact ⟨rfl, HS.tail (F := [])⟩
                    · skip
                      refine ql (.bool false) (by kernel_rfl) (R_nbool (p := (rdI ds23 w) ≥ (0 : Int)) (by kernel_rfl) (hc31)) ?_
                      refine ql (.bool false) (by kernel_rfl) (by kernel_rfl) ?_
                      refine ql (.bool false) (by kernel_rfl) (by kernel_rfl) ?_
                      refine qln (by kernel_rfl) ?_
                      refine qln (by kernel_rfl) ?_
                      refine qln (by kernel_rfl) ?_
                      refine qln (by kernel_rfl) ?_
                      refine qln (by kernel_rfl) ?_
                      refine qln (by kernel_rfl) ?_
                      refine qln (by kernel_rfl) ?_
                      refine qln (by kernel_rfl) ?_
                      refine qln (by kernel_rfl) ?_
                      refine qln (by kernel_rfl) ?_
                      refine qln (by kernel_rfl) ?_
                      refine qln (by kernel_rfl) ?_
                      refine qln (by kernel_rfl) ?_
                      refine qln (by kernel_rfl) ?_
                      refine qln (by kernel_rfl) ?_
                      refine qln (by kernel_rfl) ?_
                      refine qln (by kernel_rfl) ?_
                      refine ql (.bool false) (by kernel_rfl) (by kernel_rfl) ?_
                      refine ql (.bool false) (by kernel_rfl) (by kernel_rfl) ?_
                      refine wpList_nil ?_
                      refine x_then ?_
                      refine wp_cond_false (by kernel_rfl) ?_
                      refine wp_skip ?_
                      refine x_then ?_
                      refine wp_seq ?_
                      refine wp_region_lit ?_
                      refine ql (.pointer (some ⟨g, 0, none⟩)) (by kernel_rfl) (by kernel_rfl) ?_
                      refine qc (f := 21) (args := #[.pointer (some ⟨g, 0, none⟩)]) (by kernel_rfl) (R_call #[.pointer (some ⟨g, 0, none⟩)] Try.func21 (by kernel_rfl) (by kernel_rfl) (by kernel_rfl)) ?_
                      refine (turn_some g N arcs _ (hG.below (HS.kept.below owns_nil))).mono ?_
                      rintro e W51 ⟨g49, rfl, H_, hG50⟩
                      refine ⟨_, rfl, ?_⟩
                      replace HS : St W25 (owns []) W51 [] := HS.join (F := []) (G := []) H_
                      clear H_
                      have HB52 := HS
                      replace hr := hr.below (HB52.kept.below owns_nil)
                      replace hG := hG.below (HB52.kept.below owns_nil)
                      replace hTh16 := hTh16.below (HB52.kept.below owns_nil)
                      replace hTh22 := hTh22.below (HB52.kept.below owns_nil)
                      clear HS
                      have HS : St W51 (owns []) W51 [] := St.start _ _
                      refine ql (.int .i64 v) (by kernel_rfl) (by kernel_rfl) ?_
                      refine qc (f := 30) (args := #[.pointer (some ⟨g49, 0, none⟩), .int .i64 v, .pointer none]) (by kernel_rfl) (R_call #[.pointer (some ⟨g49, 0, none⟩), .int .i64 v, .pointer none] Try.func30 (by kernel_rfl) (by kernel_rfl) (by kernel_rfl)) ?_
                      refine (fromT g49 N (arcs.map swap) v _ (hG50.below (HS.kept.below owns_nil)) (by omega) (by first | omega | (rw [List.length_map]; omega))).mono ?_
                      rintro e W57 ⟨t53, ds55, bs56, rfl, H_, hTh54, hDh54, hKh54⟩
                      refine ⟨_, rfl, ?_⟩
                      replace HS : St W51 (owns []) W57 [] := HS.join (F := []) (G := []) H_
                      clear H_
                      have HB58 := HS
                      replace hr := hr.below (HB58.kept.below owns_nil)
                      replace hG := hG.below (HB58.kept.below owns_nil)
                      replace hTh16 := hTh16.below (HB58.kept.below owns_nil)
                      replace hTh22 := hTh22.below (HB58.kept.below owns_nil)
                      replace hG50 := hG50.below (HB58.kept.below owns_nil)
                      clear HS
                      have HS : St W57 (owns []) W57 [] := St.start _ _
                      have hdl3 := hDh54.ld
                      have htu := ds_turn hFF hDh16 hDh54 (by omega) (by omega) (by omega) (by omega)
                      refine ql (.pointer (some ⟨t53, 0, none⟩)) (by kernel_rfl) (by kernel_rfl) ?_
                      refine wpList_nil ?_
                      refine x_then ?_
                      refine wp_seq ?_
                      refine wp_region_lit ?_
                      refine ql (.pointer (some ⟨t53, 0, none⟩)) (by kernel_rfl) (by kernel_rfl) ?_
                      refine ql (.int .i64 u) (by kernel_rfl) (by kernel_rfl) ?_
                      refine qc (f := 31) (args := #[.pointer (some ⟨t53, 0, none⟩), .int .i64 u]) (by kernel_rfl) (R_call #[.pointer (some ⟨t53, 0, none⟩), .int .i64 u] Try.func31 (by kernel_rfl) (by kernel_rfl) (by kernel_rfl)) ?_
                      refine (tdist_y t53 ds55 bs56 _ (hTh54.below (HS.kept.below owns_nil)) u (by omega) (by have h_ := hDh54.ld; omega)).mono ?_
                      rintro e W59 ⟨rfl, H_⟩
                      refine ⟨_, rfl, ?_⟩
                      replace HS : St W57 (owns []) W59 [] := HS.join (F := []) (G := []) H_
                      clear H_
                      refine ql (.pointer (some ⟨t15, 0, none⟩)) (by kernel_rfl) (by kernel_rfl) ?_
                      refine ql (.int .i64 v) (by kernel_rfl) (by kernel_rfl) ?_
                      refine qc (f := 31) (args := #[.pointer (some ⟨t15, 0, none⟩), .int .i64 v]) (by kernel_rfl) (R_call #[.pointer (some ⟨t15, 0, none⟩), .int .i64 v] Try.func31 (by kernel_rfl) (by kernel_rfl) (by kernel_rfl)) ?_
                      refine (tdist_y t15 ds17 bs18 _ (hTh16.below (HS.kept.below owns_nil)) v (by omega) (by have h_ := hDh16.ld; omega)).mono ?_
                      rintro e W60 ⟨rfl, H_⟩
                      refine ⟨_, rfl, ?_⟩
                      replace HS : St W57 (owns []) W60 [] := HS.join (F := []) (G := []) H_
                      clear H_
                      refine ql (.bool true) (by kernel_rfl) (R_beq (b := (rdI ds55 u == rdI ds17 v)) (by kernel_rfl) (beq_t (htu))) ?_
                      refine ql (.bool true) (by kernel_rfl) (by kernel_rfl) ?_
                      refine qc (f := 29) (args := #[]) (by kernel_rfl) (R_call #[] Try.func29 (by kernel_rfl) (by kernel_rfl) (by kernel_rfl)) ?_
                      refine (awake13 _).mono ?_
                      rintro e W61 ⟨rfl, H_⟩
                      refine ⟨_, rfl, ?_⟩
                      replace HS : St W57 (owns []) W61 [] := HS.join (F := []) (G := []) H_
                      clear H_
                      refine ql (.bool true) (by kernel_rfl) (by kernel_rfl) ?_
                      refine ql (.bool true) (by kernel_rfl) (by kernel_rfl) ?_
                      refine wpList_nil ?_
                      refine x_then ?_
                      refine wp_ret ?_
                      refine ret_ (.bool true) (by kernel_rfl) ?_
                      replace HS : St W51 (owns []) W61 [] := HB58.join (F := []) (G := []) HS
                      replace HS : St W25 (owns []) W61 [] := HB52.join (F := []) (G := []) HS
                      replace HS : St W19 (owns []) W61 [] := HB26.join (F := []) (G := []) HS
                      replace HS : St W5 (owns []) W61 [] := HB20.join (F := []) (G := []) HS
                      replace HS : St W (owns []) W61 [] := HB6.join (F := []) (G := []) HS
                      exact ⟨rfl, HS.tail (F := [])⟩
                  · skip
                    refine (tdist_n t21 ds23 bs24 _ (hTh22.below (HS.kept.below owns_nil)) w (by have h_ := hDh22.ld; omega)).mono ?_
                    rintro e W62 ⟨rfl, H_⟩
                    refine ⟨_, rfl, ?_⟩
                    replace HS : St W25 (owns []) W62 [] := HS.join (F := []) (G := []) H_
                    clear H_
                    refine ql (.bool false) (by kernel_rfl) (R_beq (b := decide ((-1 : Int) ≥ 0)) (by kernel_rfl) (by decide)) ?_
                    refine ql (.bool false) (by kernel_rfl) (by kernel_rfl) ?_
                    refine ql (.bool false) (by kernel_rfl) (by kernel_rfl) ?_
                    refine qln (by kernel_rfl) ?_
                    refine qln (by kernel_rfl) ?_
                    refine qln (by kernel_rfl) ?_
                    refine qln (by kernel_rfl) ?_
                    refine qln (by kernel_rfl) ?_
                    refine qln (by kernel_rfl) ?_
                    refine qln (by kernel_rfl) ?_
                    refine qln (by kernel_rfl) ?_
                    refine qln (by kernel_rfl) ?_
                    refine qln (by kernel_rfl) ?_
                    refine qln (by kernel_rfl) ?_
                    refine qln (by kernel_rfl) ?_
                    refine qln (by kernel_rfl) ?_
                    refine qln (by kernel_rfl) ?_
                    refine qln (by kernel_rfl) ?_
                    refine qln (by kernel_rfl) ?_
                    refine qln (by kernel_rfl) ?_
                    refine ql (.bool false) (by kernel_rfl) (by kernel_rfl) ?_
                    refine ql (.bool false) (by kernel_rfl) (by kernel_rfl) ?_
                    refine wpList_nil ?_
                    refine x_then ?_
                    refine wp_cond_false (by kernel_rfl) ?_
                    refine wp_skip ?_
                    refine x_then ?_
                    refine wp_seq ?_
                    refine wp_region_lit ?_
                    refine ql (.pointer (some ⟨g, 0, none⟩)) (by kernel_rfl) (by kernel_rfl) ?_
                    refine qc (f := 21) (args := #[.pointer (some ⟨g, 0, none⟩)]) (by kernel_rfl) (R_call #[.pointer (some ⟨g, 0, none⟩)] Try.func21 (by kernel_rfl) (by kernel_rfl) (by kernel_rfl)) ?_
                    refine (turn_some g N arcs _ (hG.below (HS.kept.below owns_nil))).mono ?_
                    rintro e W65 ⟨g63, rfl, H_, hG64⟩
                    refine ⟨_, rfl, ?_⟩
                    replace HS : St W25 (owns []) W65 [] := HS.join (F := []) (G := []) H_
                    clear H_
                    have HB66 := HS
                    replace hr := hr.below (HB66.kept.below owns_nil)
                    replace hG := hG.below (HB66.kept.below owns_nil)
                    replace hTh16 := hTh16.below (HB66.kept.below owns_nil)
                    replace hTh22 := hTh22.below (HB66.kept.below owns_nil)
                    clear HS
                    have HS : St W65 (owns []) W65 [] := St.start _ _
                    refine ql (.int .i64 v) (by kernel_rfl) (by kernel_rfl) ?_
                    refine qc (f := 30) (args := #[.pointer (some ⟨g63, 0, none⟩), .int .i64 v, .pointer none]) (by kernel_rfl) (R_call #[.pointer (some ⟨g63, 0, none⟩), .int .i64 v, .pointer none] Try.func30 (by kernel_rfl) (by kernel_rfl) (by kernel_rfl)) ?_
                    refine (fromT g63 N (arcs.map swap) v _ (hG64.below (HS.kept.below owns_nil)) (by omega) (by first | omega | (rw [List.length_map]; omega))).mono ?_
                    rintro e W71 ⟨t67, ds69, bs70, rfl, H_, hTh68, hDh68, hKh68⟩
                    refine ⟨_, rfl, ?_⟩
                    replace HS : St W65 (owns []) W71 [] := HS.join (F := []) (G := []) H_
                    clear H_
                    have HB72 := HS
                    replace hr := hr.below (HB72.kept.below owns_nil)
                    replace hG := hG.below (HB72.kept.below owns_nil)
                    replace hTh16 := hTh16.below (HB72.kept.below owns_nil)
                    replace hTh22 := hTh22.below (HB72.kept.below owns_nil)
                    replace hG64 := hG64.below (HB72.kept.below owns_nil)
                    clear HS
                    have HS : St W71 (owns []) W71 [] := St.start _ _
                    have hdl3 := hDh68.ld
                    have htu := ds_turn hFF hDh16 hDh68 (by omega) (by omega) (by omega) (by omega)
                    refine ql (.pointer (some ⟨t67, 0, none⟩)) (by kernel_rfl) (by kernel_rfl) ?_
                    refine wpList_nil ?_
                    refine x_then ?_
                    refine wp_seq ?_
                    refine wp_region_lit ?_
                    refine ql (.pointer (some ⟨t67, 0, none⟩)) (by kernel_rfl) (by kernel_rfl) ?_
                    refine ql (.int .i64 u) (by kernel_rfl) (by kernel_rfl) ?_
                    refine qc (f := 31) (args := #[.pointer (some ⟨t67, 0, none⟩), .int .i64 u]) (by kernel_rfl) (R_call #[.pointer (some ⟨t67, 0, none⟩), .int .i64 u] Try.func31 (by kernel_rfl) (by kernel_rfl) (by kernel_rfl)) ?_
                    refine (tdist_y t67 ds69 bs70 _ (hTh68.below (HS.kept.below owns_nil)) u (by omega) (by have h_ := hDh68.ld; omega)).mono ?_
                    rintro e W73 ⟨rfl, H_⟩
                    refine ⟨_, rfl, ?_⟩
                    replace HS : St W71 (owns []) W73 [] := HS.join (F := []) (G := []) H_
                    clear H_
                    refine ql (.pointer (some ⟨t15, 0, none⟩)) (by kernel_rfl) (by kernel_rfl) ?_
                    refine ql (.int .i64 v) (by kernel_rfl) (by kernel_rfl) ?_
                    refine qc (f := 31) (args := #[.pointer (some ⟨t15, 0, none⟩), .int .i64 v]) (by kernel_rfl) (R_call #[.pointer (some ⟨t15, 0, none⟩), .int .i64 v] Try.func31 (by kernel_rfl) (by kernel_rfl) (by kernel_rfl)) ?_
                    refine (tdist_y t15 ds17 bs18 _ (hTh16.below (HS.kept.below owns_nil)) v (by omega) (by have h_ := hDh16.ld; omega)).mono ?_
                    rintro e W74 ⟨rfl, H_⟩
                    refine ⟨_, rfl, ?_⟩
                    replace HS : St W71 (owns []) W74 [] := HS.join (F := []) (G := []) H_
                    clear H_
                    refine ql (.bool true) (by kernel_rfl) (R_beq (b := (rdI ds69 u == rdI ds17 v)) (by kernel_rfl) (beq_t (htu))) ?_
                    refine ql (.bool true) (by kernel_rfl) (by kernel_rfl) ?_
                    refine qc (f := 29) (args := #[]) (by kernel_rfl) (R_call #[] Try.func29 (by kernel_rfl) (by kernel_rfl) (by kernel_rfl)) ?_
                    refine (awake13 _).mono ?_
                    rintro e W75 ⟨rfl, H_⟩
                    refine ⟨_, rfl, ?_⟩
                    replace HS : St W71 (owns []) W75 [] := HS.join (F := []) (G := []) H_
                    clear H_
                    refine ql (.bool true) (by kernel_rfl) (by kernel_rfl) ?_
                    refine ql (.bool true) (by kernel_rfl) (by kernel_rfl) ?_
                    refine wpList_nil ?_
                    refine x_then ?_
                    refine wp_ret ?_
                    refine ret_ (.bool true) (by kernel_rfl) ?_
                    replace HS : St W65 (owns []) W75 [] := HB72.join (F := []) (G := []) HS
                    replace HS : St W25 (owns []) W75 [] := HB66.join (F := []) (G := []) HS
                    replace HS : St W19 (owns []) W75 [] := HB26.join (F := []) (G := []) HS
                    replace HS : St W5 (owns []) W75 [] := HB20.join (F := []) (G := []) HS
                    replace HS : St W (owns []) W75 [] := HB6.join (F := []) (G := []) HS
                    exact ⟨rfl, HS.tail (F := [])⟩
                · skip
                  refine ql (.bool false) (by kernel_rfl) (R_nbool (p := (rdI ds17 v) ≥ (0 : Int)) (by kernel_rfl) (hc29)) ?_
                  refine ql (.bool false) (by kernel_rfl) (by kernel_rfl) ?_
                  refine qln (by kernel_rfl) ?_
                  refine qln (by kernel_rfl) ?_
                  refine qln (by kernel_rfl) ?_
                  refine qln (by kernel_rfl) ?_
                  refine ql (.bool false) (by kernel_rfl) (by kernel_rfl) ?_
                  refine ql (.bool false) (by kernel_rfl) (by kernel_rfl) ?_
                  refine qln (by kernel_rfl) ?_
                  refine qln (by kernel_rfl) ?_
                  refine qln (by kernel_rfl) ?_
                  refine qln (by kernel_rfl) ?_
                  refine qln (by kernel_rfl) ?_
                  refine qln (by kernel_rfl) ?_
                  refine qln (by kernel_rfl) ?_
                  refine qln (by kernel_rfl) ?_
                  refine qln (by kernel_rfl) ?_
                  refine qln (by kernel_rfl) ?_
                  refine qln (by kernel_rfl) ?_
                  refine qln (by kernel_rfl) ?_
                  refine qln (by kernel_rfl) ?_
                  refine qln (by kernel_rfl) ?_
                  refine qln (by kernel_rfl) ?_
                  refine qln (by kernel_rfl) ?_
                  refine qln (by kernel_rfl) ?_
                  refine ql (.bool false) (by kernel_rfl) (by kernel_rfl) ?_
                  refine ql (.bool false) (by kernel_rfl) (by kernel_rfl) ?_
                  refine wpList_nil ?_
                  refine x_then ?_
                  refine wp_cond_false (by kernel_rfl) ?_
                  refine wp_skip ?_
                  refine x_then ?_
                  refine wp_seq ?_
                  refine wp_region_lit ?_
                  refine ql (.pointer (some ⟨g, 0, none⟩)) (by kernel_rfl) (by kernel_rfl) ?_
                  refine qc (f := 21) (args := #[.pointer (some ⟨g, 0, none⟩)]) (by kernel_rfl) (R_call #[.pointer (some ⟨g, 0, none⟩)] Try.func21 (by kernel_rfl) (by kernel_rfl) (by kernel_rfl)) ?_
                  refine (turn_some g N arcs _ (hG.below (HS.kept.below owns_nil))).mono ?_
                  rintro e W78 ⟨g76, rfl, H_, hG77⟩
                  refine ⟨_, rfl, ?_⟩
                  replace HS : St W25 (owns []) W78 [] := HS.join (F := []) (G := []) H_
                  clear H_
                  have HB79 := HS
                  replace hr := hr.below (HB79.kept.below owns_nil)
                  replace hG := hG.below (HB79.kept.below owns_nil)
                  replace hTh16 := hTh16.below (HB79.kept.below owns_nil)
                  replace hTh22 := hTh22.below (HB79.kept.below owns_nil)
                  clear HS
                  have HS : St W78 (owns []) W78 [] := St.start _ _
                  refine ql (.int .i64 v) (by kernel_rfl) (by kernel_rfl) ?_
                  refine qc (f := 30) (args := #[.pointer (some ⟨g76, 0, none⟩), .int .i64 v, .pointer none]) (by kernel_rfl) (R_call #[.pointer (some ⟨g76, 0, none⟩), .int .i64 v, .pointer none] Try.func30 (by kernel_rfl) (by kernel_rfl) (by kernel_rfl)) ?_
                  refine (fromT g76 N (arcs.map swap) v _ (hG77.below (HS.kept.below owns_nil)) (by omega) (by first | omega | (rw [List.length_map]; omega))).mono ?_
                  rintro e W84 ⟨t80, ds82, bs83, rfl, H_, hTh81, hDh81, hKh81⟩
                  refine ⟨_, rfl, ?_⟩
                  replace HS : St W78 (owns []) W84 [] := HS.join (F := []) (G := []) H_
                  clear H_
                  have HB85 := HS
                  replace hr := hr.below (HB85.kept.below owns_nil)
                  replace hG := hG.below (HB85.kept.below owns_nil)
                  replace hTh16 := hTh16.below (HB85.kept.below owns_nil)
                  replace hTh22 := hTh22.below (HB85.kept.below owns_nil)
                  replace hG77 := hG77.below (HB85.kept.below owns_nil)
                  clear HS
                  have HS : St W84 (owns []) W84 [] := St.start _ _
                  have hdl3 := hDh81.ld
                  have htu := ds_turn hFF hDh16 hDh81 (by omega) (by omega) (by omega) (by omega)
                  refine ql (.pointer (some ⟨t80, 0, none⟩)) (by kernel_rfl) (by kernel_rfl) ?_
                  refine wpList_nil ?_
                  refine x_then ?_
                  refine wp_seq ?_
                  refine wp_region_lit ?_
                  refine ql (.pointer (some ⟨t80, 0, none⟩)) (by kernel_rfl) (by kernel_rfl) ?_
                  refine ql (.int .i64 u) (by kernel_rfl) (by kernel_rfl) ?_
                  refine qc (f := 31) (args := #[.pointer (some ⟨t80, 0, none⟩), .int .i64 u]) (by kernel_rfl) (R_call #[.pointer (some ⟨t80, 0, none⟩), .int .i64 u] Try.func31 (by kernel_rfl) (by kernel_rfl) (by kernel_rfl)) ?_
                  refine (tdist_y t80 ds82 bs83 _ (hTh81.below (HS.kept.below owns_nil)) u (by omega) (by have h_ := hDh81.ld; omega)).mono ?_
                  rintro e W86 ⟨rfl, H_⟩
                  refine ⟨_, rfl, ?_⟩
                  replace HS : St W84 (owns []) W86 [] := HS.join (F := []) (G := []) H_
                  clear H_
                  refine ql (.pointer (some ⟨t15, 0, none⟩)) (by kernel_rfl) (by kernel_rfl) ?_
                  refine ql (.int .i64 v) (by kernel_rfl) (by kernel_rfl) ?_
                  refine qc (f := 31) (args := #[.pointer (some ⟨t15, 0, none⟩), .int .i64 v]) (by kernel_rfl) (R_call #[.pointer (some ⟨t15, 0, none⟩), .int .i64 v] Try.func31 (by kernel_rfl) (by kernel_rfl) (by kernel_rfl)) ?_
                  refine (tdist_y t15 ds17 bs18 _ (hTh16.below (HS.kept.below owns_nil)) v (by omega) (by have h_ := hDh16.ld; omega)).mono ?_
                  rintro e W87 ⟨rfl, H_⟩
                  refine ⟨_, rfl, ?_⟩
                  replace HS : St W84 (owns []) W87 [] := HS.join (F := []) (G := []) H_
                  clear H_
                  refine ql (.bool true) (by kernel_rfl) (R_beq (b := (rdI ds82 u == rdI ds17 v)) (by kernel_rfl) (beq_t (htu))) ?_
                  refine ql (.bool true) (by kernel_rfl) (by kernel_rfl) ?_
                  refine qc (f := 29) (args := #[]) (by kernel_rfl) (R_call #[] Try.func29 (by kernel_rfl) (by kernel_rfl) (by kernel_rfl)) ?_
                  refine (awake13 _).mono ?_
                  rintro e W88 ⟨rfl, H_⟩
                  refine ⟨_, rfl, ?_⟩
                  replace HS : St W84 (owns []) W88 [] := HS.join (F := []) (G := []) H_
                  clear H_
                  refine ql (.bool true) (by kernel_rfl) (by kernel_rfl) ?_
                  refine ql (.bool true) (by kernel_rfl) (by kernel_rfl) ?_
                  refine wpList_nil ?_
                  refine x_then ?_
                  refine wp_ret ?_
                  refine ret_ (.bool true) (by kernel_rfl) ?_
                  replace HS : St W78 (owns []) W88 [] := HB85.join (F := []) (G := []) HS
                  replace HS : St W25 (owns []) W88 [] := HB79.join (F := []) (G := []) HS
                  replace HS : St W19 (owns []) W88 [] := HB26.join (F := []) (G := []) HS
                  replace HS : St W5 (owns []) W88 [] := HB20.join (F := []) (G := []) HS
                  replace HS : St W (owns []) W88 [] := HB6.join (F := []) (G := []) HS
                  exact ⟨rfl, HS.tail (F := [])⟩
      · refine ⟨_, rfl, ?_⟩
        replace HS : St W (owns []) W5 [] := HS.join (F := []) (G := []) H_
        clear H_
        refine ql (.tuple #[.pointer none, .int .i64 (chk n arcs)]) (by kernel_rfl) (by kernel_rfl) ?_
        refine ql (.pointer none) (by kernel_rfl) (by kernel_rfl) ?_
        refine ql (.int .i64 (chk n arcs)) (by kernel_rfl) (by kernel_rfl) ?_
        refine ql (.pointer none) (by kernel_rfl) (by kernel_rfl) ?_
        refine ql (.int .i64 (chk n arcs)) (by kernel_rfl) (by kernel_rfl) ?_
        refine wpList_nil ?_
        refine x_then ?_
        refine wp_seq ?_
        refine wp_seq ?_
        refine wp_region_lit ?_
        refine ql (.int .i64 (chk n arcs)) (by kernel_rfl) (by kernel_rfl) ?_
        refine ql (.bool true) (by kernel_rfl) (R_beq (b := (chk n arcs != (0 : Int))) (by kernel_rfl) (bne_t (by omega))) ?_
        refine ql (.bool true) (by kernel_rfl) (by kernel_rfl) ?_
        refine qln (by kernel_rfl) ?_
        refine qln (by kernel_rfl) ?_
        refine ql (.bool true) (by kernel_rfl) (by kernel_rfl) ?_
        refine ql (.bool true) (by kernel_rfl) (by kernel_rfl) ?_
        refine qln (by kernel_rfl) ?_
        refine qln (by kernel_rfl) ?_
        refine qln (by kernel_rfl) ?_
        refine ql (.bool true) (by kernel_rfl) (by kernel_rfl) ?_
        refine ql (.bool true) (by kernel_rfl) (by kernel_rfl) ?_
        refine qln (by kernel_rfl) ?_
        refine qln (by kernel_rfl) ?_
        refine ql (.bool true) (by kernel_rfl) (by kernel_rfl) ?_
        refine ql (.bool true) (by kernel_rfl) (by kernel_rfl) ?_
        refine qln (by kernel_rfl) ?_
        refine qln (by kernel_rfl) ?_
        refine qln (by kernel_rfl) ?_
        refine ql (.bool true) (by kernel_rfl) (by kernel_rfl) ?_
        refine wpList_nil ?_
        refine x_then ?_
        refine wp_cond_true (by kernel_rfl) ?_
        refine wp_seq ?_
        refine wp_region_lit ?_
        refine qc (f := 29) (args := #[]) (by kernel_rfl) (R_call #[] Try.func29 (by kernel_rfl) (by kernel_rfl) (by kernel_rfl)) ?_
        refine (awake13 _).mono ?_
        rintro e W89 ⟨rfl, H_⟩
        refine ⟨_, rfl, ?_⟩
        replace HS : St W (owns []) W89 [] := HS.join (F := []) (G := []) H_
        clear H_
        refine ql (.bool true) (by kernel_rfl) (by kernel_rfl) ?_
        refine wpList_nil ?_
        refine x_then ?_
        refine wp_ret ?_
        refine x_thenR ?_
        refine ret_ (.bool true) (by kernel_rfl) ?_
        exact ⟨rfl, HS.tail (F := [])⟩

end Go.Proofs.Ythfpdpjccnnlhaa.GBfsMiddle
