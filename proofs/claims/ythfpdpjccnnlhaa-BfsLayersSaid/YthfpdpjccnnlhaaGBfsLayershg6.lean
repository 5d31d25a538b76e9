/- Written for this claim by gp.py, a program of this session's, over the kit's print. Lean checks it. -/
import Derived.Test.YthfpdpjccnnlhaaGBfsLayersx0
import Derived.Test.YthfpdpjccnnlhaaGBfsLayershx
import Derived.Test.YthfpdpjccnnlhaaGBfsLayershhp1
import Derived.Test.YthfpdpjccnnlhaaGBfsLayershhp2
import Derived.Test.YthfpdpjccnnlhaaGBfsLayershgp
import Derived.Test.YthfpdpjccnnlhaaGBfsLayershg1
import Derived.Test.YthfpdpjccnnlhaaGBfsLayershg2
import Derived.Test.YthfpdpjccnnlhaaGBfsLayershg4
import Derived.Test.YthfpdpjccnnlhaaGBfsLayershg5
import Derived.WalkKit
import Derived.StillTailTactics
import Derived.Deep.LoopGhost
import Derived.KernelRfl
import Derived.Deep.OwnRows
import Derived.Laws.OwnMore
import Derived.Laws.MakeOwn
import Derived.Maps.AppendAt
import Derived.OrdersHeld
namespace Go.Proofs.Ythfpdpjccnnlhaa.GBfsLayers
open Go.RowKit Go.Proofs.YthfpdpjccnnlhaaW.PrintWords Go.Proofs.YthfpdpjccnnlhaaW.PrintLast Go.Proofs.YthfpdpjccnnlhaaW.PrintMore
attribute [local go_sem] max2_int min2_int max_two min_two max_three min_three max_four min_four   -- for this text's walks alone
set_option linter.unusedVariables false
set_option linter.unusedSimpArgs false

--import Derived.WalkKit
--import Derived.StillTailTactics
--import Derived.Deep.LoopGhost
--import Derived.KernelRfl
--import Derived.Deep.OwnRows
--import Derived.Laws.OwnMore
--import Derived.Laws.MakeOwn
--import Derived.Maps.AppendAt
--import Derived.OrdersHeld
attribute [local irreducible] wpStill wpList Code.wp TA

set_option maxRecDepth 100000 in
set_option maxHeartbeats 1000000 in
theorem check_neg (n : Int) (A : Option Addr) (c : Nat) (arcs : List (Int × Int)) (W : World) (hr : Rd W A (cf arcC arcs)) (hl : arcs.length ≤ 1048576) (hn : n < 0) : Calls Try.prog 16 #[.int .i64 n, .slice A arcs.length c] W fun e W' => e = .returned (.int .i64 (chk n arcs)) ∧ St W (owns []) W' [] := by
  have HS : St W (owns []) W [] := St.start W _
  refine calls_enter ((.int .i64 n) :: (.slice A arcs.length c) :: undef :: undef :: undef :: undef :: undef :: undef :: undef :: undef :: undef :: undef :: undef :: undef :: undef :: undef :: undef :: undef :: undef :: undef :: undef :: undef :: undef :: undef :: undef :: undef :: undef :: undef :: undef :: undef :: undef :: undef :: undef :: undef :: undef :: undef :: undef :: undef :: undef :: undef :: undef :: undef :: undef :: undef :: undef :: undef :: undef :: undef :: undef :: undef :: undef :: undef :: undef :: []) Try.func16 rfl (by kernel_rfl) ?_
  refine wp_seq ?_
  refine wp_region_lit ?_
  refine ql (.int .i64 0) (by kernel_rfl) (by kernel_rfl) ?_
  refine wpList_nil ?_
  refine x_then ?_
  refine wp_seq ?_
  refine wp_seq ?_
  refine wp_region_lit ?_
  refine ql (.int .i64 n) (by kernel_rfl) (by kernel_rfl) ?_
  refine ql (.bool true) (by kernel_rfl) (R_bool (p := n < (0 : Int)) (by kernel_rfl) (by omega)) ?_
  refine wpList_nil ?_
  refine x_then ?_
  refine wp_cond_true (by kernel_rfl) ?_
  refine wp_seq ?_
  refine wp_region_lit ?_
  refine ql (.int .i64 2) (by kernel_rfl) (by kernel_rfl) ?_
  refine wpList_nil ?_
  refine x_then ?_
  refine wp_ret ?_
  refine x_thenR ?_
  refine ret_ (.int .i64 2) (by kernel_rfl) ?_
  exact ⟨by rw [chk2 (by omega)], HS⟩

set_option maxRecDepth 100000 in
set_option maxHeartbeats 1000000 in
theorem check_nat (N : Nat) (A : Option Addr) (c : Nat) (arcs : List (Int × Int)) (W : World) (hr : Rd W A (cf arcC arcs)) (hl : arcs.length ≤ 1048576) : Calls Try.prog 16 #[.int .i64 (N : Int), .slice A arcs.length c] W fun e W' => e = .returned (.int .i64 (chk (N : Int) arcs)) ∧ St W (owns []) W' [] := by
  have HS : St W (owns []) W [] := St.start W _
  refine calls_enter ((.int .i64 (N : Int)) :: (.slice A arcs.length c) :: undef :: undef :: undef :: undef :: undef :: undef :: undef :: undef :: undef :: undef :: undef :: undef :: undef :: undef :: undef :: undef :: undef :: undef :: undef :: undef :: undef :: undef :: undef :: undef :: undef :: undef :: undef :: undef :: undef :: undef :: undef :: undef :: undef :: undef :: undef :: undef :: undef :: undef :: undef :: undef :: undef :: undef :: undef :: undef :: undef :: undef :: undef :: undef :: undef :: undef :: undef :: []) Try.func16 rfl (by kernel_rfl) ?_
  refine wp_seq ?_
  refine wp_region_lit ?_
  refine ql (.int .i64 0) (by kernel_rfl) (by kernel_rfl) ?_
  refine wpList_nil ?_
  refine x_then ?_
  refine wp_seq ?_
  refine wp_seq ?_
  refine wp_region_lit ?_
  refine ql (.int .i64 (N : Int)) (by kernel_rfl) (by kernel_rfl) ?_
  refine ql (.bool false) (by kernel_rfl) (R_nbool (p := (N : Int) < (0 : Int)) (by kernel_rfl) (by omega)) ?_
  refine wpList_nil ?_
  refine x_then ?_
  refine wp_cond_false (by kernel_rfl) ?_
  refine wp_skip ?_
  refine x_then ?_
  refine wp_seq ?_
  refine wp_seq ?_
  refine wp_region_lit ?_
  refine ql (.int .i64 (N : Int)) (by kernel_rfl) (by kernel_rfl) ?_
  by_cases hc1 : (N : Int) > (1048576 : Int)
  · skip
    refine ql (.bool true) (by kernel_rfl) (R_bool (p := (N : Int) > (1048576 : Int)) (by kernel_rfl) (hc1)) ?_
    refine ql (.bool true) (by kernel_rfl) (by kernel_rfl) ?_
    refine qln (by kernel_rfl) ?_
    refine qln (by kernel_rfl) ?_
    refine qln (by kernel_rfl) ?_
    refine ql (.bool true) (by kernel_rfl) (by kernel_rfl) ?_
    refine wpList_nil ?_
    refine x_then ?_
    refine wp_cond_true (by kernel_rfl) ?_
    refine wp_seq ?_
    refine wp_region_lit ?_
    refine ql (.int .i64 5) (by kernel_rfl) (by kernel_rfl) ?_
    refine wpList_nil ?_
    refine x_then ?_
    refine wp_ret ?_
    refine x_thenR ?_
    refine ret_ (.int .i64 5) (by kernel_rfl) ?_
    exact ⟨by rw [chk5 (by omega) (by omega)], HS⟩
  · skip
    refine ql (.bool false) (by kernel_rfl) (R_nbool (p := (N : Int) > (1048576 : Int)) (by kernel_rfl) (hc1)) ?_
    refine ql (.bool false) (by kernel_rfl) (by kernel_rfl) ?_
    refine ql (.slice A arcs.length c) (by kernel_rfl) (by kernel_rfl) ?_
    refine ql (.int .i64 (arcs.length : Int)) (by kernel_rfl) (by kernel_rfl) ?_
    by_cases hc2 : (arcs.length : Int) > (67108864 : Int)
    · skip
      refine ql (.bool true) (by kernel_rfl) (R_bool (p := (arcs.length : Int) > (67108864 : Int)) (by kernel_rfl) (hc2)) ?_
      refine ql (.bool true) (by kernel_rfl) (by kernel_rfl) ?_
      refine wpList_nil ?_
      refine x_then ?_
      refine wp_cond_true (by kernel_rfl) ?_
      refine wp_seq ?_
      refine wp_region_lit ?_
      refine ql (.int .i64 5) (by kernel_rfl) (by kernel_rfl) ?_
      refine wpList_nil ?_
      refine x_then ?_
      refine wp_ret ?_
      refine x_thenR ?_
      refine ret_ (.int .i64 5) (by kernel_rfl) ?_
      exact ⟨by rw [chk5 (by omega) (by omega)], HS⟩
    · skip
      refine ql (.bool false) (by kernel_rfl) (R_nbool (p := (arcs.length : Int) > (67108864 : Int)) (by kernel_rfl) (hc2)) ?_
      refine ql (.bool false) (by kernel_rfl) (by kernel_rfl) ?_
      refine wpList_nil ?_
      refine x_then ?_
      refine wp_cond_false (by kernel_rfl) ?_
      refine wp_skip ?_
      refine x_then ?_
      refine wp_seq ?_
      refine wp_seq ?_
      refine wp_region_lit ?_
      refine ql (.int .i64 0) (by kernel_rfl) (by kernel_rfl) ?_
      refine wpList_nil ?_
      refine x_then ?_
      refine wp_block ?_
      refine wp_loop_ghost (fun kq a' w' => ∃ (J3 : Nat → Value) (q : Int) , a' = Fr ((.int .i64 (N : Int)) :: (.slice A arcs.length c) :: undef :: undef :: ((J3 4)) :: (.int .i64 q) :: (.int .i64 (N : Int)) :: (.bool false) :: (.int .i64 (N : Int)) :: (.bool false) :: (.bool false) :: (.slice A arcs.length c) :: (.int .i64 (arcs.length : Int)) :: (.bool false) :: (.bool false) :: ((J3 15)) :: ((J3 16)) :: ((J3 17)) :: ((J3 18)) :: ((J3 19)) :: ((J3 20)) :: ((J3 21)) :: ((J3 22)) :: ((J3 23)) :: ((J3 24)) :: ((J3 25)) :: ((J3 26)) :: ((J3 27)) :: ((J3 28)) :: ((J3 29)) :: ((J3 30)) :: ((J3 31)) :: ((J3 32)) :: ((J3 33)) :: ((J3 34)) :: ((J3 35)) :: ((J3 36)) :: ((J3 37)) :: ((J3 38)) :: ((J3 39)) :: ((J3 40)) :: ((J3 41)) :: ((J3 42)) :: ((J3 43)) :: ((J3 44)) :: ((J3 45)) :: ((J3 46)) :: ((J3 47)) :: ((J3 48)) :: ((J3 49)) :: ((J3 50)) :: ((J3 51)) :: ((J3 52)) :: []) ∧ kq = (arcs.length - (q).toNat) ∧ (0 ≤ q) ∧ (q ≤ arcs.length) ∧ (Fine N (arcs.take (q).toNat)) ∧ St W (owns []) w' []) (arcs.length - ((0 : Int)).toNat) ⟨(fun k_ : Nat => List.getD ((.int .i64 (N : Int)) :: (.slice A arcs.length c) :: undef :: undef :: (.int .i64 0) :: (.int .i64 0) :: (.int .i64 (N : Int)) :: (.bool false) :: (.int .i64 (N : Int)) :: (.bool false) :: (.bool false) :: (.slice A arcs.length c) :: (.int .i64 (arcs.length : Int)) :: (.bool false) :: (.bool false) :: undef :: undef :: undef :: undef :: undef :: undef :: undef :: undef :: undef :: undef :: undef :: undef :: undef :: undef :: undef :: undef :: undef :: undef :: undef :: undef :: undef :: undef :: undef :: undef :: undef :: undef :: undef :: undef :: undef :: undef :: undef :: undef :: undef :: undef :: undef :: undef :: undef :: undef :: []) k_ undef), (0 : Int), congrArg Fr (by kernel_rfl), rfl, by omega, by omega, by intro a ha; simp at ha, HS⟩ ?_
      clear HS
      intro kq4 a' W5 hrel
      obtain ⟨J3, q, rfl, hk, q0, q1, hf, HS⟩ := hrel
      refine wp_seq ?_
      refine wp_seq ?_
      refine wp_region_lit ?_
      refine ql (.int .i64 q) (by kernel_rfl) (by kernel_rfl) ?_
      refine ql (.slice A arcs.length c) (by kernel_rfl) (by kernel_rfl) ?_
      refine ql (.int .i64 (arcs.length : Int)) (by kernel_rfl) (by kernel_rfl) ?_
      by_cases hc6 : q < (arcs.length : Int)
      · skip
        refine ql (.bool true) (by kernel_rfl) (R_bool (p := q < (arcs.length : Int)) (by kernel_rfl) (hc6)) ?_
        refine wpList_nil ?_
        refine x_then ?_
        refine wp_cond_true (by kernel_rfl) ?_
        refine wp_skip ?_
        refine x_then ?_
        refine wp_seq ?_
        refine wp_block ?_
        refine wp_seq ?_
        refine wp_region_lit ?_
        refine ql (.slice A arcs.length c) (by kernel_rfl) (by kernel_rfl) ?_
        refine ql (.int .i64 q) (by kernel_rfl) (by kernel_rfl) ?_
        obtain ⟨ad7, rfl⟩ := Rd.isSome_ hr (by rw [cf_len (z := 2) (fun _ => rfl)]; omega)
        refine ql (.pointer (some (ad7.add (q.toNat * 2)))) (by kernel_rfl) (R_indexA (k := .i64) (p := ad7) (n := arcs.length) (c := c) (i := q) (by kernel_rfl) (by kernel_rfl) Try.underlying22 (by kernel_rfl) (by omega) (by omega)) ?_
        refine ql (.pointer (some (ad7.add (q.toNat * 2)))) (by kernel_rfl) (by kernel_rfl) ?_
        refine ql (.int .i64 ((gx arcs q).1)) (by kernel_rfl) (R_load (p := ad7.add (q.toNat * 2)) (by kernel_rfl) (by kernel_rfl) (by kernel_rfl) (HS.old0 (Rd.elem0 (f := arcC) (fun _ => rfl) hr (gx_eq (by omega) (by omega)) rfl))) ?_
        by_cases hc8 : ((gx arcs q).1) < (0 : Int)
        · skip
          refine ql (.bool true) (by kernel_rfl) (R_bool (p := ((gx arcs q).1) < (0 : Int)) (by kernel_rfl) (hc8)) ?_
          refine ql (.bool true) (by kernel_rfl) (by kernel_rfl) ?_
          refine qln (by kernel_rfl) ?_
          refine qln (by kernel_rfl) ?_
          refine qln (by kernel_rfl) ?_
          refine qln (by kernel_rfl) ?_
          refine qln (by kernel_rfl) ?_
          refine qln (by kernel_rfl) ?_
          refine qln (by kernel_rfl) ?_
          refine ql (.bool true) (by kernel_rfl) (by kernel_rfl) ?_
          refine ql (.bool true) (by kernel_rfl) (by kernel_rfl) ?_
          refine qln (by kernel_rfl) ?_
          refine qln (by kernel_rfl) ?_
          refine qln (by kernel_rfl) ?_
          refine qln (by kernel_rfl) ?_
          refine qln (by kernel_rfl) ?_
          refine qln (by kernel_rfl) ?_
          refine ql (.bool true) (by kernel_rfl) (by kernel_rfl) ?_
          refine ql (.bool true) (by kernel_rfl) (by kernel_rfl) ?_
          refine qln (by kernel_rfl) ?_
          refine qln (by kernel_rfl) ?_
          refine qln (by kernel_rfl) ?_
          refine qln (by kernel_rfl) ?_
          refine qln (by kernel_rfl) ?_
          refine qln (by kernel_rfl) ?_
          refine qln (by kernel_rfl) ?_
          refine ql (.bool true) (by kernel_rfl) (by kernel_rfl) ?_
          refine wpList_nil ?_
          refine x_then ?_
          refine wp_cond_true (by kernel_rfl) ?_
          refine wp_seq ?_
          refine wp_region_lit ?_
          refine ql (.int .i64 7) (by kernel_rfl) (by kernel_rfl) ?_
          refine wpList_nil ?_
          refine x_then ?_
          refine wp_ret ?_
          refine x_inbR ?_
          refine x_thenR ?_
          refine x_thenR ?_
          refine x_inbR ?_
          refine x_thenR ?_
          refine ret_ (.int .i64 7) (by kernel_rfl) ?_
          exact ⟨by rw [chk7 (i := q) (by omega) (by omega) q0 (by omega) (by omega)], HS⟩
        · skip
          refine ql (.bool false) (by kernel_rfl) (R_nbool (p := ((gx arcs q).1) < (0 : Int)) (by kernel_rfl) (hc8)) ?_
          refine ql (.bool false) (by kernel_rfl) (by kernel_rfl) ?_
          refine ql (.slice (some ad7) arcs.length c) (by kernel_rfl) (by kernel_rfl) ?_
          refine ql (.int .i64 q) (by kernel_rfl) (by kernel_rfl) ?_
          refine ql (.pointer (some (ad7.add (q.toNat * 2)))) (by kernel_rfl) (R_indexA (k := .i64) (p := ad7) (n := arcs.length) (c := c) (i := q) (by kernel_rfl) (by kernel_rfl) Try.underlying22 (by kernel_rfl) (by omega) (by omega)) ?_
          refine ql (.pointer (some (ad7.add (q.toNat * 2)))) (by kernel_rfl) (by kernel_rfl) ?_
          refine ql (.int .i64 ((gx arcs q).1)) (by kernel_rfl) (R_load (p := ad7.add (q.toNat * 2)) (by kernel_rfl) (by kernel_rfl) (by kernel_rfl) (HS.old0 (Rd.elem0 (f := arcC) (fun _ => rfl) hr (gx_eq (by omega) (by omega)) rfl))) ?_
          refine ql (.int .i64 (N : Int)) (by kernel_rfl) (by kernel_rfl) ?_
          by_cases hc9 : ((gx arcs q).1) ≥ (N : Int)
          · skip
            refine ql (.bool true) (by kernel_rfl) (R_bool (p := ((gx arcs q).1) ≥ (N : Int)) (by kernel_rfl) (hc9)) ?_
            refine ql (.bool true) (by kernel_rfl) (by kernel_rfl) ?_
            refine ql (.bool true) (by kernel_rfl) (by kernel_rfl) ?_
            refine qln (by kernel_rfl) ?_
            refine qln (by kernel_rfl) ?_
            refine qln (by kernel_rfl) ?_
            refine qln (by kernel_rfl) ?_
            refine qln (by kernel_rfl) ?_
            refine qln (by kernel_rfl) ?_
            refine ql (.bool true) (by kernel_rfl) (by kernel_rfl) ?_
            refine ql (.bool true) (by kernel_rfl) (by kernel_rfl) ?_
            refine qln (by kernel_rfl) ?_
            refine qln (by kernel_rfl) ?_
            refine qln (by kernel_rfl) ?_
            refine qln (by kernel_rfl) ?_
            refine qln (by kernel_rfl) ?_
            refine qln (by kernel_rfl) ?_
            refine qln (by kernel_rfl) ?_
            refine ql (.bool true) (by kernel_rfl) (by kernel_rfl) ?_
            refine wpList_nil ?_
            refine x_then ?_
            refine wp_cond_true (by kernel_rfl) ?_
            refine wp_seq ?_
            refine wp_region_lit ?_
            refine ql (.int .i64 7) (by kernel_rfl) (by kernel_rfl) ?_
            refine wpList_nil ?_
            refine x_then ?_
            refine wp_ret ?_
            refine x_inbR ?_
            refine x_thenR ?_
            refine x_thenR ?_
            refine x_inbR ?_
            refine x_thenR ?_
            refine ret_ (.int .i64 7) (by kernel_rfl) ?_
            exact ⟨by rw [chk7 (i := q) (by omega) (by omega) q0 (by omega) (by omega)], HS⟩
          · skip
            refine ql (.bool false) (by kernel_rfl) (R_nbool (p := ((gx arcs q).1) ≥ (N : Int)) (by kernel_rfl) (hc9)) ?_
            refine ql (.bool false) (by kernel_rfl) (by kernel_rfl) ?_
            refine ql (.bool false) (by kernel_rfl) (by kernel_rfl) ?_
            refine ql (.slice (some ad7) arcs.length c) (by kernel_rfl) (by kernel_rfl) ?_
            refine ql (.int .i64 q) (by kernel_rfl) (by kernel_rfl) ?_
            refine ql (.pointer (some (ad7.add (q.toNat * 2)))) (by kernel_rfl) (R_indexA (k := .i64) (p := ad7) (n := arcs.length) (c := c) (i := q) (by kernel_rfl) (by kernel_rfl) Try.underlying22 (by kernel_rfl) (by omega) (by omega)) ?_
            refine ql (.pointer (some ((ad7.add (q.toNat * 2)).add 1))) (by kernel_rfl) (by kernel_rfl) ?_
            refine ql (.int .i64 ((gx arcs q).2)) (by kernel_rfl) (R_load (p := (ad7.add (q.toNat * 2)).add 1) (by kernel_rfl) (by kernel_rfl) (by kernel_rfl) (HS.old0 (Rd.elem1 (k := 1) (f := arcC) (fun _ => rfl) hr (gx_eq (by omega) (by omega)) rfl))) ?_
            by_cases hc10 : ((gx arcs q).2) < (0 : Int)
            · skip
              refine ql (.bool true) (by kernel_rfl) (R_bool (p := ((gx arcs q).2) < (0 : Int)) (by kernel_rfl) (hc10)) ?_
              refine ql (.bool true) (by kernel_rfl) (by kernel_rfl) ?_
              refine ql (.bool true) (by kernel_rfl) (by kernel_rfl) ?_
              refine qln (by kernel_rfl) ?_
              refine qln (by kernel_rfl) ?_
              refine qln (by kernel_rfl) ?_
              refine qln (by kernel_rfl) ?_
              refine qln (by kernel_rfl) ?_
              refine qln (by kernel_rfl) ?_
              refine qln (by kernel_rfl) ?_
              refine ql (.bool true) (by kernel_rfl) (by kernel_rfl) ?_
              refine wpList_nil ?_
              refine x_then ?_
              refine wp_cond_true (by kernel_rfl) ?_
              refine wp_seq ?_
              refine wp_region_lit ?_
              refine ql (.int .i64 7) (by kernel_rfl) (by kernel_rfl) ?_
              refine wpList_nil ?_
              refine x_then ?_
              refine wp_ret ?_
              refine x_inbR ?_
              refine x_thenR ?_
              refine x_thenR ?_
              refine x_inbR ?_
              refine x_thenR ?_
              refine ret_ (.int .i64 7) (by kernel_rfl) ?_
              exact ⟨by rw [chk7 (i := q) (by omega) (by omega) q0 (by omega) (by omega)], HS⟩
            · skip
              refine ql (.bool false) (by kernel_rfl) (R_nbool (p := ((gx arcs q).2) < (0 : Int)) (by kernel_rfl) (hc10)) ?_
              refine ql (.bool false) (by kernel_rfl) (by kernel_rfl) ?_
              refine ql (.bool false) (by kernel_rfl) (by kernel_rfl) ?_
              refine ql (.slice (some ad7) arcs.length c) (by kernel_rfl) (by kernel_rfl) ?_
              refine ql (.int .i64 q) (by kernel_rfl) (by kernel_rfl) ?_
              refine ql (.pointer (some (ad7.add (q.toNat * 2)))) (by kernel_rfl) (R_indexA (k := .i64) (p := ad7) (n := arcs.length) (c := c) (i := q) (by kernel_rfl) (by kernel_rfl) Try.underlying22 (by kernel_rfl) (by omega) (by omega)) ?_
              refine ql (.pointer (some ((ad7.add (q.toNat * 2)).add 1))) (by kernel_rfl) (by kernel_rfl) ?_
              refine ql (.int .i64 ((gx arcs q).2)) (by kernel_rfl) (R_load (p := (ad7.add (q.toNat * 2)).add 1) (by kernel_rfl) (by kernel_rfl) (by kernel_rfl) (HS.old0 (Rd.elem1 (k := 1) (f := arcC) (fun _ => rfl) hr (gx_eq (by omega) (by omega)) rfl))) ?_
              refine ql (.int .i64 (N : Int)) (by kernel_rfl) (by kernel_rfl) ?_
              by_cases hc11 : ((gx arcs q).2) ≥ (N : Int)
              · skip
                refine ql (.bool true) (by kernel_rfl) (R_bool (p := ((gx arcs q).2) ≥ (N : Int)) (by kernel_rfl) (hc11)) ?_
                refine ql (.bool true) (by kernel_rfl) (by kernel_rfl) ?_
                refine wpList_nil ?_
                refine x_then ?_
                refine wp_cond_true (by kernel_rfl) ?_
                refine wp_seq ?_
                refine wp_region_lit ?_
                refine ql (.int .i64 7) (by kernel_rfl) (by kernel_rfl) ?_
                refine wpList_nil ?_
                refine x_then ?_
                refine wp_ret ?_
                refine x_inbR ?_
                refine x_thenR ?_
                refine x_thenR ?_
                refine x_inbR ?_
                refine x_thenR ?_
                refine ret_ (.int .i64 7) (by kernel_rfl) ?_
                exact ⟨by rw [chk7 (i := q) (by omega) (by omega) q0 (by omega) (by omega)], HS⟩
              · skip
                refine ql (.bool false) (by kernel_rfl) (R_nbool (p := ((gx arcs q).2) ≥ (N : Int)) (by kernel_rfl) (hc11)) ?_
                refine ql (.bool false) (by kernel_rfl) (by kernel_rfl) ?_
                refine wpList_nil ?_
                refine x_then ?_
                refine wp_cond_false (by kernel_rfl) ?_
                refine wp_skip ?_
                refine x_inb ?_
                refine x_then ?_
                refine wp_region_lit ?_
                refine ql (.int .i64 q) (by kernel_rfl) (by kernel_rfl) ?_
                refine ql (.int .i64 (q + 1)) (by kernel_rfl) (R_int (by kernel_rfl) (w64 (by omega))) ?_
                refine ql (.int .i64 (q + 1)) (by kernel_rfl) (by kernel_rfl) ?_
                refine wpList_nil ?_
                have hfs := fine_step hf q0 (by omega) ⟨by omega, by omega, by omega, by omega⟩
                refine x_then ?_
                exact ⟨arcs.length - (q + 1).toNat, by omega, (fun k_ : Nat => List.getD ((.int .i64 (N : Int)) :: (.slice (some ad7) arcs.length c) :: undef :: undef :: ((J3 4)) :: (.int .i64 (q + 1)) :: (.int .i64 (N : Int)) :: (.bool false) :: (.int .i64 (N : Int)) :: (.bool false) :: (.bool false) :: (.slice (some ad7) arcs.length c) :: (.int .i64 (arcs.length : Int)) :: (.bool false) :: (.bool false) :: (.int .i64 q) :: (.slice (some ad7) arcs.length c) :: (.int .i64 (arcs.length : Int)) :: (.bool true) :: (.int .i64 q) :: (.int .i64 (q + 1)) :: (.slice (some ad7) arcs.length c) :: (.int .i64 q) :: (.pointer (some (ad7.add (q.toNat * 2)))) :: (.pointer (some (ad7.add (q.toNat * 2)))) :: (.int .i64 ((gx arcs q).1)) :: (.bool false) :: (.bool false) :: (.slice (some ad7) arcs.length c) :: (.int .i64 q) :: (.pointer (some (ad7.add (q.toNat * 2)))) :: (.pointer (some (ad7.add (q.toNat * 2)))) :: (.int .i64 ((gx arcs q).1)) :: (.int .i64 (N : Int)) :: (.bool false) :: (.bool false) :: (.bool false) :: (.slice (some ad7) arcs.length c) :: (.int .i64 q) :: (.pointer (some (ad7.add (q.toNat * 2)))) :: (.pointer (some ((ad7.add (q.toNat * 2)).add 1))) :: (.int .i64 ((gx arcs q).2)) :: (.bool false) :: (.bool false) :: (.bool false) :: (.slice (some ad7) arcs.length c) :: (.int .i64 q) :: (.pointer (some (ad7.add (q.toNat * 2)))) :: (.pointer (some ((ad7.add (q.toNat * 2)).add 1))) :: (.int .i64 ((gx arcs q).2)) :: (.int .i64 (N : Int)) :: (.bool false) :: (.bool false) :: []) k_ undef), q + 1, congrArg Fr (by kernel_rfl), rfl, by omega, by omega, hfs, HS⟩
      · skip
        refine ql (.bool false) (by kernel_rfl) (R_nbool (p := q < (arcs.length : Int)) (by kernel_rfl) (hc6)) ?_
        refine wpList_nil ?_
        refine x_then ?_
        refine wp_cond_false (by kernel_rfl) ?_
        refine wp_exit ?_
        refine x_thenE ?_
        refine x_thenE ?_
        refine x_hit ?_
        refine x_then ?_
        refine wp_seq ?_
        refine wp_region_lit ?_
        refine ql (.int .i64 0) (by kernel_rfl) (by kernel_rfl) ?_
        refine wpList_nil ?_
        refine x_then ?_
        refine wp_ret ?_
        refine ret_ (.int .i64 0) (by kernel_rfl) ?_
        exact ⟨by rw [chk0 (by omega) (by rwa [List.take_of_length_le (by omega)] at hf)], HS⟩

theorem check_calls (n : Int) (A : Option Addr) (c : Nat) (arcs : List (Int × Int)) (W : World) (hr : Rd W A (cf arcC arcs)) (hl : arcs.length ≤ 1048576) : Calls Try.prog 16 #[.int .i64 n, .slice A arcs.length c] W fun e W' => e = .returned (.int .i64 (chk n arcs)) ∧ St W (owns []) W' [] := by
  by_cases hn : n < 0
  · exact check_neg n A c arcs W hr hl hn
  · obtain ⟨N, rfl⟩ : ∃ N : Nat, n = (N : Int) := ⟨n.toNat, by omega⟩
    exact check_nat N A c arcs W hr hl
theorem of_yes (N : Nat) (A : Option Addr) (c : Nat) (arcs : List (Int × Int)) (W : World) (hr : Rd W A (cf arcC arcs)) (hl : arcs.length ≤ 1048576) (h : chk (N : Int) arcs = 0) : Calls Try.prog 13 #[.int .i64 (N : Int), .slice A arcs.length c] W fun e W' => ∃ g, e = .returned (.tuple #[.pointer (some ⟨g, 0, none⟩), .int .i64 0]) ∧ St W (owns []) W' [] ∧ GAt W' g N arcs := by
  refine (of_calls (N : Int) A c arcs W hr hl).mono ?_
  rintro e W' (⟨_, g, N', hN, he, hs, hG⟩ | ⟨hc, _⟩)
  · obtain rfl : N = N' := by omega
    exact ⟨g, he, hs, hG⟩
  · exact absurd h hc
theorem same_eq (A B : Option Addr) (c d : Nat) (xs ys : List Int) (W : World) (he : xs = ys) (hr : Rd W A (ci .i64 xs)) (hs : Rd W B (ci .i64 ys)) (hl : xs.length ≤ 1099511627776) : Calls Try.prog 23 #[.slice A xs.length c, .slice B ys.length d] W fun e W' => e = .returned (.bool true) ∧ St W (owns []) W' [] := by
  subst he; exact same_t A B c d xs W hr hs hl
theorem Rd_nil (W : World) (k : IntKind) : Rd W none (ci k []) := fun j v h => by rw [ci_nil] at h; simp at h

theorem in_yes (g N : Nat) (arcs : List (Int × Int)) (W : World) (hG : GAt W g N arcs) (v : Int) (h0 : 0 ≤ v) (h1 : v < N) : Calls Try.prog 20 #[.pointer (some ⟨g, 0, none⟩), .int .i64 v] W fun e W' => ∃ A' c', e = .returned (.slice A' (idxs (keys true arcs) v).length c') ∧ St W (owns []) W' [row A' (idxs (keys true arcs) v).length c' (ci .i64 (idxs (keys true arcs) v)) 3 1] :=
  (in_some g N arcs W hG v).mono fun e W' h => h.elim (fun ⟨_, _, x⟩ => x) (fun ⟨hn, _⟩ => absurd ⟨h0, h1⟩ hn)
theorem in_no (g N : Nat) (arcs : List (Int × Int)) (W : World) (hG : GAt W g N arcs) (v : Int) (h : ¬ (0 ≤ v ∧ v < N)) : Calls Try.prog 20 #[.pointer (some ⟨g, 0, none⟩), .int .i64 v] W fun e W' => e = .returned (.slice none 0 0) ∧ St W (owns []) W' [] :=
  (in_some g N arcs W hG v).mono fun e W' h2 => h2.elim (fun ⟨a, b, _⟩ => absurd ⟨a, b⟩ h) (fun ⟨_, x⟩ => x)

theorem awk_chk : chk ((3 : Nat) : Int) [(0, 1), (0, 2), (2, 0)] = 0 := by unfold chk fineB; decide
theorem awk_out : idxs (keys false [(0, 1), (0, 2), (2, 0)]) 0 = [0, 1] := by unfold idxs keys key; decide
theorem awk_in : idxs (keys true [(0, 1), (0, 2), (2, 0)]) 0 = [2] := by unfold idxs keys key; decide
theorem awk_rch {w : Int} (h : Rch [(0, 1), (0, 2), (2, 0)] 1 w) : w = 1 := by
  induction h with
  | refl => rfl
  | step _ ha ih => subst ih; simp at ha
theorem awk_reach : reach 3 [(0, 1), (0, 2), (2, 0)] 1 = [1] := by
  have h0 : ¬ Rch [(0, 1), (0, 2), (2, 0)] 1 0 := fun h => by have := awk_rch h; omega
  have h2 : ¬ Rch [(0, 1), (0, 2), (2, 0)] 1 2 := fun h => by have := awk_rch h; omega
  have h1 : Rch [(0, 1), (0, 2), (2, 0)] 1 1 := .refl
  unfold reach
  rw [show List.range 3 = [0, 1, 2] from rfl]
  simp [h0, h1, h2]

set_option maxRecDepth 100000 in
set_option maxHeartbeats 1000000 in
theorem awake_calls (W : World) : Calls Try.prog 12 #[] W fun e W' => e = .returned (.bool true) ∧ St W (owns []) W' [] := by
  have HS : St W (owns []) W [] := St.start W _
  refine calls_enter [undef, undef, undef, undef, undef, undef, undef, undef, undef, undef, undef, undef, undef, undef, undef, undef, undef, undef, undef, undef, undef, undef, undef, undef, undef, undef, undef, undef, undef, undef, undef, undef, undef, undef, undef, undef] Try.func12 rfl (by kernel_rfl) ?_
  refine wp_seq ?_
  refine wp_region_lit ?_
  refine ql (.bool false) (by kernel_rfl) (by kernel_rfl) ?_
  refine wpList_nil ?_
  refine x_then ?_
  refine wp_seq ?_
  refine wp_region_lit ?_
  refine ql (.agg #[.int .i64 0, .int .i64 1]) (by kernel_rfl) (by kernel_rfl) ?_
  refine ql (.agg #[.int .i64 0, .int .i64 2]) (by kernel_rfl) (by kernel_rfl) ?_
  refine ql (.agg #[.int .i64 2, .int .i64 0]) (by kernel_rfl) (by kernel_rfl) ?_
  refine kl HS 3 [.int .i64 0, .int .i64 1, .int .i64 0, .int .i64 2, .int .i64 2, .int .i64 0] 38 2 (by kernel_rfl) (by kernel_rfl) rfl (by decide) ?_
  intro g1 W2 H_
  replace HS : St W (owns []) W2 [row (some ⟨g1, 0, none⟩) 3 3 (cf arcC ([(0, 1), (0, 2), (2, 0)])) 38 2] := H_.cast_ (by kernel_rfl)
  clear H_
  refine qc (f := 13) (args := #[.int .i64 3, .slice (some ⟨g1, 0, none⟩) 3 3]) (by kernel_rfl) (R_call #[.int .i64 3, .slice (some ⟨g1, 0, none⟩) 3 3] Try.func13 (by kernel_rfl) (by kernel_rfl) (by kernel_rfl)) ?_
  refine (of_yes 3 _ _ ([(0, 1), (0, 2), (2, 0)] : List (Int × Int)) _ (Rd.row HS (i := 0) rfl) (by decide) awk_chk).mono ?_
  rintro e W3 ⟨g, rfl, H_, hG⟩
  refine ⟨_, rfl, ?_⟩
  replace HS : St W (owns []) W3 [row (some ⟨g1, 0, none⟩) 3 3 (cf arcC ([(0, 1), (0, 2), (2, 0)])) 38 2] := HS.join (F := []) (G := []) H_
  clear H_
  have HB4 := HS
  have hr5 := Rd.row HB4 (i := 0) rfl
  clear HS
  have HS : St W3 (owns []) W3 [] := St.start _ _
  refine ql (.tuple #[.pointer (some ⟨g, 0, none⟩), .int .i64 0]) (by kernel_rfl) (by kernel_rfl) ?_
  refine ql (.pointer (some ⟨g, 0, none⟩)) (by kernel_rfl) (by kernel_rfl) ?_
  refine ql (.int .i64 0) (by kernel_rfl) (by kernel_rfl) ?_
  refine ql (.pointer (some ⟨g, 0, none⟩)) (by kernel_rfl) (by kernel_rfl) ?_
  refine ql (.int .i64 0) (by kernel_rfl) (by kernel_rfl) ?_
  refine wpList_nil ?_
  refine x_then ?_
  refine wp_seq ?_
  refine wp_region_lit ?_
  refine ql (.int .i64 0) (by kernel_rfl) (by kernel_rfl) ?_
  refine ql (.bool true) (by kernel_rfl) (R_beq (b := ((0 : Int) == 0)) (by kernel_rfl) (by decide)) ?_
  refine ql (.bool true) (by kernel_rfl) (by kernel_rfl) ?_
  refine ql (.pointer (some ⟨g, 0, none⟩)) (by kernel_rfl) (by kernel_rfl) ?_
  refine qc (f := 19) (args := #[.pointer (some ⟨g, 0, none⟩), .int .i64 0]) (by kernel_rfl) (R_call #[.pointer (some ⟨g, 0, none⟩), .int .i64 0] Try.func19 (by kernel_rfl) (by kernel_rfl) (by kernel_rfl)) ?_
  refine (out_yes g 3 ([(0, 1), (0, 2), (2, 0)]) _ (hG.below (HS.kept.below owns_nil)) 0 (by omega) (by omega)).mono ?_
  rintro e W8 ⟨A6, c7, rfl, H_⟩
  refine ⟨_, rfl, ?_⟩
  replace HS : St W3 (owns []) W8 [row A6 ((idxs (keys false ([(0, 1), (0, 2), (2, 0)])) 0).length) c7 (ci .i64 (idxs (keys false ([(0, 1), (0, 2), (2, 0)])) 0)) 3 1] := HS.join (F := []) (G := [row A6 ((idxs (keys false ([(0, 1), (0, 2), (2, 0)])) 0).length) c7 (ci .i64 (idxs (keys false ([(0, 1), (0, 2), (2, 0)])) 0)) 3 1]) H_
  clear H_
  refine kl HS 2 [.int .i64 0, .int .i64 1] 3 1 (by kernel_rfl) (by kernel_rfl) rfl (by decide) ?_
  intro g9 W10 H_
  replace HS : St W3 (owns []) W10 [row (some ⟨g9, 0, none⟩) 2 2 (ci .i64 ([0, 1])) 3 1, row A6 ((idxs (keys false ([(0, 1), (0, 2), (2, 0)])) 0).length) c7 (ci .i64 (idxs (keys false ([(0, 1), (0, 2), (2, 0)])) 0)) 3 1] := H_.cast_ (by kernel_rfl)
  clear H_
  refine qc (f := 23) (args := #[.slice A6 ((idxs (keys false ([(0, 1), (0, 2), (2, 0)])) 0).length) c7, .slice (some ⟨g9, 0, none⟩) 2 2]) (by kernel_rfl) (R_call #[.slice A6 ((idxs (keys false ([(0, 1), (0, 2), (2, 0)])) 0).length) c7, .slice (some ⟨g9, 0, none⟩) 2 2] Try.func23 (by kernel_rfl) (by kernel_rfl) (by kernel_rfl)) ?_
  refine (same_eq _ _ _ _ (idxs (keys false ([(0, 1), (0, 2), (2, 0)])) 0) ([0, 1]) _ (by first | exact awk_out | exact awk_in | exact awk_reach) (Rd.row HS (i := 1) rfl) (Rd.row HS (i := 0) rfl) (by first | (rw [awk_out]; decide) | (rw [awk_in]; decide) | (rw [awk_reach]; decide))).mono ?_
  rintro e W11 ⟨rfl, H_⟩
  refine ⟨_, rfl, ?_⟩
  replace HS : St W3 (owns []) W11 [row (some ⟨g9, 0, none⟩) 2 2 (ci .i64 ([0, 1])) 3 1, row A6 ((idxs (keys false ([(0, 1), (0, 2), (2, 0)])) 0).length) c7 (ci .i64 (idxs (keys false ([(0, 1), (0, 2), (2, 0)])) 0)) 3 1] := HS.join (F := []) (G := []) H_
  clear H_
  refine ql (.bool true) (by kernel_rfl) (by kernel_rfl) ?_
  refine ql (.bool true) (by kernel_rfl) (by kernel_rfl) ?_
  refine ql (.pointer (some ⟨g, 0, none⟩)) (by kernel_rfl) (by kernel_rfl) ?_
  refine qc (f := 20) (args := #[.pointer (some ⟨g, 0, none⟩), .int .i64 0]) (by kernel_rfl) (R_call #[.pointer (some ⟨g, 0, none⟩), .int .i64 0] Try.func20 (by kernel_rfl) (by kernel_rfl) (by kernel_rfl)) ?_
  refine (in_yes g 3 ([(0, 1), (0, 2), (2, 0)]) _ (hG.below (HS.kept.below owns_nil)) 0 (by omega) (by omega)).mono ?_
  rintro e W14 ⟨A12, c13, rfl, H_⟩
  refine ⟨_, rfl, ?_⟩
  replace HS : St W3 (owns []) W14 [row A12 ((idxs (keys true ([(0, 1), (0, 2), (2, 0)])) 0).length) c13 (ci .i64 (idxs (keys true ([(0, 1), (0, 2), (2, 0)])) 0)) 3 1, row (some ⟨g9, 0, none⟩) 2 2 (ci .i64 ([0, 1])) 3 1, row A6 ((idxs (keys false ([(0, 1), (0, 2), (2, 0)])) 0).length) c7 (ci .i64 (idxs (keys false ([(0, 1), (0, 2), (2, 0)])) 0)) 3 1] := HS.join (F := []) (G := [row A12 ((idxs (keys true ([(0, 1), (0, 2), (2, 0)])) 0).length) c13 (ci .i64 (idxs (keys true ([(0, 1), (0, 2), (2, 0)])) 0)) 3 1]) H_
  clear H_
  refine kl HS 1 [.int .i64 2] 3 1 (by kernel_rfl) (by kernel_rfl) rfl (by decide) ?_
  intro g15 W16 H_
  replace HS : St W3 (owns []) W16 [row (some ⟨g15, 0, none⟩) 1 1 (ci .i64 ([2])) 3 1, row A12 ((idxs (keys true ([(0, 1), (0, 2), (2, 0)])) 0).length) c13 (ci .i64 (idxs (keys true ([(0, 1), (0, 2), (2, 0)])) 0)) 3 1, row (some ⟨g9, 0, none⟩) 2 2 (ci .i64 ([0, 1])) 3 1, row A6 ((idxs (keys false ([(0, 1), (0, 2), (2, 0)])) 0).length) c7 (ci .i64 (idxs (keys false ([(0, 1), (0, 2), (2, 0)])) 0)) 3 1] := H_.cast_ (by kernel_rfl)
  clear H_
  refine qc (f := 23) (args := #[.slice A12 ((idxs (keys true ([(0, 1), (0, 2), (2, 0)])) 0).length) c13, .slice (some ⟨g15, 0, none⟩) 1 1]) (by kernel_rfl) (R_call #[.slice A12 ((idxs (keys true ([(0, 1), (0, 2), (2, 0)])) 0).length) c13, .slice (some ⟨g15, 0, none⟩) 1 1] Try.func23 (by kernel_rfl) (by kernel_rfl) (by kernel_rfl)) ?_
  refine (same_eq _ _ _ _ (idxs (keys true ([(0, 1), (0, 2), (2, 0)])) 0) ([2]) _ (by first | exact awk_out | exact awk_in | exact awk_reach) (Rd.row HS (i := 1) rfl) (Rd.row HS (i := 0) rfl) (by first | (rw [awk_out]; decide) | (rw [awk_in]; decide) | (rw [awk_reach]; decide))).mono ?_
  rintro e W17 ⟨rfl, H_⟩
  refine ⟨_, rfl, ?_⟩
  replace HS : St W3 (owns []) W17 [row (some ⟨g15, 0, none⟩) 1 1 (ci .i64 ([2])) 3 1, row A12 ((idxs (keys true ([(0, 1), (0, 2), (2, 0)])) 0).length) c13 (ci .i64 (idxs (keys true ([(0, 1), (0, 2), (2, 0)])) 0)) 3 1, row (some ⟨g9, 0, none⟩) 2 2 (ci .i64 ([0, 1])) 3 1, row A6 ((idxs (keys false ([(0, 1), (0, 2), (2, 0)])) 0).length) c7 (ci .i64 (idxs (keys false ([(0, 1), (0, 2), (2, 0)])) 0)) 3 1] := HS.join (F := []) (G := []) H_
  clear H_
  refine ql (.bool true) (by kernel_rfl) (by kernel_rfl) ?_
  refine ql (.bool true) (by kernel_rfl) (by kernel_rfl) ?_
  refine ql (.pointer (some ⟨g, 0, none⟩)) (by kernel_rfl) (by kernel_rfl) ?_
  refine qc (f := 14) (args := #[.pointer (some ⟨g, 0, none⟩), .int .i64 1]) (by kernel_rfl) (R_call #[.pointer (some ⟨g, 0, none⟩), .int .i64 1] Try.func14 (by kernel_rfl) (by kernel_rfl) (by kernel_rfl)) ?_
  refine (reach_yes g 3 ([(0, 1), (0, 2), (2, 0)]) _ (hG.below (HS.kept.below owns_nil)) 1 (by omega) (by omega)).mono ?_
  rintro e W20 ⟨A18, c19, rfl, H_⟩
  refine ⟨_, rfl, ?_⟩
  replace HS : St W3 (owns []) W20 [row A18 ((reach 3 ([(0, 1), (0, 2), (2, 0)]) 1).length) c19 (ci .i64 (reach 3 ([(0, 1), (0, 2), (2, 0)]) 1)) 3 1, row (some ⟨g15, 0, none⟩) 1 1 (ci .i64 ([2])) 3 1, row A12 ((idxs (keys true ([(0, 1), (0, 2), (2, 0)])) 0).length) c13 (ci .i64 (idxs (keys true ([(0, 1), (0, 2), (2, 0)])) 0)) 3 1, row (some ⟨g9, 0, none⟩) 2 2 (ci .i64 ([0, 1])) 3 1, row A6 ((idxs (keys false ([(0, 1), (0, 2), (2, 0)])) 0).length) c7 (ci .i64 (idxs (keys false ([(0, 1), (0, 2), (2, 0)])) 0)) 3 1] := HS.join (F := []) (G := [row A18 ((reach 3 ([(0, 1), (0, 2), (2, 0)]) 1).length) c19 (ci .i64 (reach 3 ([(0, 1), (0, 2), (2, 0)]) 1)) 3 1]) H_
  clear H_
  refine kl HS 1 [.int .i64 1] 3 1 (by kernel_rfl) (by kernel_rfl) rfl (by decide) ?_
  intro g21 W22 H_
  replace HS : St W3 (owns []) W22 [row (some ⟨g21, 0, none⟩) 1 1 (ci .i64 ([1])) 3 1, row A18 ((reach 3 ([(0, 1), (0, 2), (2, 0)]) 1).length) c19 (ci .i64 (reach 3 ([(0, 1), (0, 2), (2, 0)]) 1)) 3 1, row (some ⟨g15, 0, none⟩) 1 1 (ci .i64 ([2])) 3 1, row A12 ((idxs (keys true ([(0, 1), (0, 2), (2, 0)])) 0).length) c13 (ci .i64 (idxs (keys true ([(0, 1), (0, 2), (2, 0)])) 0)) 3 1, row (some ⟨g9, 0, none⟩) 2 2 (ci .i64 ([0, 1])) 3 1, row A6 ((idxs (keys false ([(0, 1), (0, 2), (2, 0)])) 0).length) c7 (ci .i64 (idxs (keys false ([(0, 1), (0, 2), (2, 0)])) 0)) 3 1] := H_.cast_ (by kernel_rfl)
  clear H_
  refine qc (f := 23) (args := #[.slice A18 ((reach 3 ([(0, 1), (0, 2), (2, 0)]) 1).length) c19, .slice (some ⟨g21, 0, none⟩) 1 1]) (by kernel_rfl) (R_call #[.slice A18 ((reach 3 ([(0, 1), (0, 2), (2, 0)]) 1).length) c19, .slice (some ⟨g21, 0, none⟩) 1 1] Try.func23 (by kernel_rfl) (by kernel_rfl) (by kernel_rfl)) ?_
  refine (same_eq _ _ _ _ (reach 3 ([(0, 1), (0, 2), (2, 0)]) 1) ([1]) _ (by first | exact awk_out | exact awk_in | exact awk_reach) (Rd.row HS (i := 1) rfl) (Rd.row HS (i := 0) rfl) (by first | (rw [awk_out]; decide) | (rw [awk_in]; decide) | (rw [awk_reach]; decide))).mono ?_
  rintro e W23 ⟨rfl, H_⟩
  refine ⟨_, rfl, ?_⟩
  replace HS : St W3 (owns []) W23 [row (some ⟨g21, 0, none⟩) 1 1 (ci .i64 ([1])) 3 1, row A18 ((reach 3 ([(0, 1), (0, 2), (2, 0)]) 1).length) c19 (ci .i64 (reach 3 ([(0, 1), (0, 2), (2, 0)]) 1)) 3 1, row (some ⟨g15, 0, none⟩) 1 1 (ci .i64 ([2])) 3 1, row A12 ((idxs (keys true ([(0, 1), (0, 2), (2, 0)])) 0).length) c13 (ci .i64 (idxs (keys true ([(0, 1), (0, 2), (2, 0)])) 0)) 3 1, row (some ⟨g9, 0, none⟩) 2 2 (ci .i64 ([0, 1])) 3 1, row A6 ((idxs (keys false ([(0, 1), (0, 2), (2, 0)])) 0).length) c7 (ci .i64 (idxs (keys false ([(0, 1), (0, 2), (2, 0)])) 0)) 3 1] := HS.join (F := []) (G := []) H_
  clear H_
  refine ql (.bool true) (by kernel_rfl) (by kernel_rfl) ?_
  refine ql (.bool true) (by kernel_rfl) (by kernel_rfl) ?_
  refine ql (.pointer (some ⟨g, 0, none⟩)) (by kernel_rfl) (by kernel_rfl) ?_
  refine qc (f := 18) (args := #[.pointer (some ⟨g, 0, none⟩)]) (by kernel_rfl) (R_call #[.pointer (some ⟨g, 0, none⟩)] Try.func18 (by kernel_rfl) (by kernel_rfl) (by kernel_rfl)) ?_
  refine (arcs_some g 3 ([(0, 1), (0, 2), (2, 0)]) _ (hG.below (HS.kept.below owns_nil))).mono ?_
  rintro e W24 ⟨rfl, H_⟩
  refine ⟨_, rfl, ?_⟩
  replace HS : St W3 (owns []) W24 [row (some ⟨g21, 0, none⟩) 1 1 (ci .i64 ([1])) 3 1, row A18 ((reach 3 ([(0, 1), (0, 2), (2, 0)]) 1).length) c19 (ci .i64 (reach 3 ([(0, 1), (0, 2), (2, 0)]) 1)) 3 1, row (some ⟨g15, 0, none⟩) 1 1 (ci .i64 ([2])) 3 1, row A12 ((idxs (keys true ([(0, 1), (0, 2), (2, 0)])) 0).length) c13 (ci .i64 (idxs (keys true ([(0, 1), (0, 2), (2, 0)])) 0)) 3 1, row (some ⟨g9, 0, none⟩) 2 2 (ci .i64 ([0, 1])) 3 1, row A6 ((idxs (keys false ([(0, 1), (0, 2), (2, 0)])) 0).length) c7 (ci .i64 (idxs (keys false ([(0, 1), (0, 2), (2, 0)])) 0)) 3 1] := HS.join (F := []) (G := []) H_
  clear H_
  refine ql (.bool true) (by kernel_rfl) (R_beq (b := ((([(0, 1), (0, 2), (2, 0)]).length : Int) == (3 : Int))) (by kernel_rfl) (beq_t (by rfl))) ?_
  refine ql (.bool true) (by kernel_rfl) (by kernel_rfl) ?_
  refine ql (.bool true) (by kernel_rfl) (by kernel_rfl) ?_
  refine wpList_nil ?_
  refine x_then ?_
  refine wp_ret ?_
  refine ret_ (.bool true) (by kernel_rfl) ?_
  replace HS : St W (owns []) W24 [row (some ⟨g21, 0, none⟩) 1 1 (ci .i64 ([1])) 3 1, row A18 ((reach 3 ([(0, 1), (0, 2), (2, 0)]) 1).length) c19 (ci .i64 (reach 3 ([(0, 1), (0, 2), (2, 0)]) 1)) 3 1, row (some ⟨g15, 0, none⟩) 1 1 (ci .i64 ([2])) 3 1, row A12 ((idxs (keys true ([(0, 1), (0, 2), (2, 0)])) 0).length) c13 (ci .i64 (idxs (keys true ([(0, 1), (0, 2), (2, 0)])) 0)) 3 1, row (some ⟨g9, 0, none⟩) 2 2 (ci .i64 ([0, 1])) 3 1, row A6 ((idxs (keys false ([(0, 1), (0, 2), (2, 0)])) 0).length) c7 (ci .i64 (idxs (keys false ([(0, 1), (0, 2), (2, 0)])) 0)) 3 1, row (some ⟨g1, 0, none⟩) 3 3 (cf arcC ([(0, 1), (0, 2), (2, 0)])) 38 2] := HB4.join (F := []) (G := [row (some ⟨g21, 0, none⟩) 1 1 (ci .i64 ([1])) 3 1, row A18 ((reach 3 ([(0, 1), (0, 2), (2, 0)]) 1).length) c19 (ci .i64 (reach 3 ([(0, 1), (0, 2), (2, 0)]) 1)) 3 1, row (some ⟨g15, 0, none⟩) 1 1 (ci .i64 ([2])) 3 1, row A12 ((idxs (keys true ([(0, 1), (0, 2), (2, 0)])) 0).length) c13 (ci .i64 (idxs (keys true ([(0, 1), (0, 2), (2, 0)])) 0)) 3 1, row (some ⟨g9, 0, none⟩) 2 2 (ci .i64 ([0, 1])) 3 1, row A6 ((idxs (keys false ([(0, 1), (0, 2), (2, 0)])) 0).length) c7 (ci .i64 (idxs (keys false ([(0, 1), (0, 2), (2, 0)])) 0)) 3 1]) HS
  exact ⟨rfl, HS.tail (F := [row (some ⟨g21, 0, none⟩) 1 1 (ci .i64 ([1])) 3 1, row A18 ((reach 3 ([(0, 1), (0, 2), (2, 0)]) 1).length) c19 (ci .i64 (reach 3 ([(0, 1), (0, 2), (2, 0)]) 1)) 3 1, row (some ⟨g15, 0, none⟩) 1 1 (ci .i64 ([2])) 3 1, row A12 ((idxs (keys true ([(0, 1), (0, 2), (2, 0)])) 0).length) c13 (ci .i64 (idxs (keys true ([(0, 1), (0, 2), (2, 0)])) 0)) 3 1, row (some ⟨g9, 0, none⟩) 2 2 (ci .i64 ([0, 1])) 3 1, row A6 ((idxs (keys false ([(0, 1), (0, 2), (2, 0)])) 0).length) c7 (ci .i64 (idxs (keys false ([(0, 1), (0, 2), (2, 0)])) 0)) 3 1, row (some ⟨g1, 0, none⟩) 3 3 (cf arcC ([(0, 1), (0, 2), (2, 0)])) 38 2])⟩

end Go.Proofs.Ythfpdpjccnnlhaa.GBfsLayers
