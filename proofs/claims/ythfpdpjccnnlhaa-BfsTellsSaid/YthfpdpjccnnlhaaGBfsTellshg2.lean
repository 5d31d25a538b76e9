/- Written for this claim by gp.py, a program of this session's, over the kit's print. Lean checks it. -/
import Derived.Test.YthfpdpjccnnlhaaGBfsTellsx0
import Derived.Test.YthfpdpjccnnlhaaGBfsTellshx
import Derived.Test.YthfpdpjccnnlhaaGBfsTellshhp1
import Derived.Test.YthfpdpjccnnlhaaGBfsTellshhp2
import Derived.Test.YthfpdpjccnnlhaaGBfsTellshgp
import Derived.Test.YthfpdpjccnnlhaaGBfsTellshg1
import Derived.WalkKit
import Derived.StillTailTactics
import Derived.Deep.LoopGhost
import Derived.KernelRfl
import Derived.Deep.OwnRows
import Derived.Laws.OwnMore
import Derived.Laws.MakeOwn
import Derived.Maps.AppendAt
import Derived.OrdersHeld
namespace Go.Proofs.Ythfpdpjccnnlhaa.GBfsTells
open Go.RowKit Go.Proofs.YthfpdpjccnnlhaaW.PrintWords Go.Proofs.YthfpdpjccnnlhaaW.PrintLast Go.Proofs.YthfpdpjccnnlhaaW.PrintMore
attribute [local go_sem] max2_int min2_int max_two min_two max_three min_three max_four min_four   -- for this text's walks alone
set_option linter.unusedVariables false
set_option linter.unusedSimpArgs false

--import Derived.WalkKit
--import Derived.StillTailTactics
--import Derived.Deep.LoopGhost
--import Derived.KernelRfl
--import Derived.Deep.OwnRows
--import Derived.Laws.OwnMore
--import Derived.Laws.MakeOwn
--import Derived.Maps.AppendAt
--import Derived.OrdersHeld
attribute [local irreducible] wpStill wpList Code.wp TA

set_option maxRecDepth 100000 in
set_option maxHeartbeats 1000000 in
theorem out_nil (W : World) (v : Int) : Calls Try.prog 19 #[.pointer none, .int .i64 v] W fun e W' => e = .returned (.slice none 0 0) ∧ St W (owns []) W' [] := by
  have HS : St W (owns []) W [] := St.start W _
  refine calls_enter [.pointer none, .int .i64 v, undef, undef, undef, undef, undef, undef, undef, undef, undef, undef, undef, undef, undef, undef, undef, undef, undef, undef, undef, undef, undef, undef, undef, undef, undef, undef, undef, undef, undef, undef, undef, undef] Try.func19 rfl (by kernel_rfl) ?_
  refine wp_seq ?_
  refine wp_region_lit ?_
  refine ql (.slice none 0 0) (by kernel_rfl) (by kernel_rfl) ?_
  refine wpList_nil ?_
  refine x_then ?_
  refine wp_seq ?_
  refine wp_seq ?_
  refine wp_region_lit ?_
  refine ql (.int .i64 v) (by kernel_rfl) (by kernel_rfl) ?_
  by_cases hc1 : v < (0 : Int)
  · skip
    refine ql (.bool true) (by kernel_rfl) (R_bool (p := v < (0 : Int)) (by kernel_rfl) (hc1)) ?_
    refine ql (.bool true) (by kernel_rfl) (by kernel_rfl) ?_
    refine qln (by kernel_rfl) ?_
    refine qln (by kernel_rfl) ?_
    refine qln (by kernel_rfl) ?_
    refine qln (by kernel_rfl) ?_
    refine ql (.bool true) (by kernel_rfl) (by kernel_rfl) ?_
    refine wpList_nil ?_
    refine x_then ?_
    refine wp_cond_true (by kernel_rfl) ?_
    refine wp_seq ?_
    refine wp_region_lit ?_
    refine ql (.slice none 0 0) (by kernel_rfl) (by kernel_rfl) ?_
    refine wpList_nil ?_
    refine x_then ?_
    refine wp_ret ?_
    refine x_thenR ?_
    refine ret_ (.slice none 0 0) (by kernel_rfl) ?_
    exact ⟨rfl, HS⟩
  · skip
    refine ql (.bool false) (by kernel_rfl) (R_nbool (p := v < (0 : Int)) (by kernel_rfl) (hc1)) ?_
    refine ql (.bool false) (by kernel_rfl) (by kernel_rfl) ?_
    refine ql (.int .i64 v) (by kernel_rfl) (by kernel_rfl) ?_
    refine ql (.pointer none) (by kernel_rfl) (by kernel_rfl) ?_
    refine qc (f := 17) (args := #[.pointer none]) (by kernel_rfl) (R_call #[.pointer none] Try.func17 (by kernel_rfl) (by kernel_rfl) (by kernel_rfl)) ?_
    refine (nodesnil _).mono ?_
    rintro e W2 ⟨rfl, H_⟩
    refine ⟨_, rfl, ?_⟩
    replace HS : St W (owns []) W2 [] := HS.join (F := []) (G := []) H_
    clear H_
    refine ql (.bool true) (by kernel_rfl) (R_bool (p := v ≥ (0 : Int)) (by kernel_rfl) (by omega)) ?_
    refine ql (.bool true) (by kernel_rfl) (by kernel_rfl) ?_
    refine wpList_nil ?_
    refine x_then ?_
    refine wp_cond_true (by kernel_rfl) ?_
    refine wp_seq ?_
    refine wp_region_lit ?_
    refine ql (.slice none 0 0) (by kernel_rfl) (by kernel_rfl) ?_
    refine wpList_nil ?_
    refine x_then ?_
    refine wp_ret ?_
    refine x_thenR ?_
    refine ret_ (.slice none 0 0) (by kernel_rfl) ?_
    exact ⟨rfl, HS⟩

set_option maxRecDepth 100000 in
set_option maxHeartbeats 1000000 in
theorem out_some (g N : Nat) (arcs : List (Int × Int)) (W : World) (hG : GAt W g N arcs) (v : Int) : Calls Try.prog 19 #[.pointer (some ⟨g, 0, none⟩), .int .i64 v] W fun e W' => (0 ≤ v ∧ v < N ∧ ∃ A' c', e = .returned (.slice A' (idxs (keys false arcs) v).length c') ∧ St W (owns []) W' [row A' (idxs (keys false arcs) v).length c' (ci .i64 (idxs (keys false arcs) v)) 3 1]) ∨ (¬ (0 ≤ v ∧ v < N) ∧ e = .returned (.slice none 0 0) ∧ St W (owns []) W' []) := by
  have HS : St W (owns []) W [] := St.start W _
  have hG_ := hG
  obtain ⟨A1, c1, A2, c2, A3, c3, A4, c4, A5, c5, os, js, hB, r1, r2, r3, r4, r5, l1, l2, hF, hN, hm, k2, k3, k4, k5⟩ := hG_
  have b1 := bl_len N (keys false arcs)
  have b2 := bl_len N (keys true arcs)
  refine calls_enter [.pointer (some ⟨g, 0, none⟩), .int .i64 v, undef, undef, undef, undef, undef, undef, undef, undef, undef, undef, undef, undef, undef, undef, undef, undef, undef, undef, undef, undef, undef, undef, undef, undef, undef, undef, undef, undef, undef, undef, undef, undef] Try.func19 rfl (by kernel_rfl) ?_
  refine wp_seq ?_
  refine wp_region_lit ?_
  refine ql (.slice none 0 0) (by kernel_rfl) (by kernel_rfl) ?_
  refine wpList_nil ?_
  refine x_then ?_
  refine wp_seq ?_
  refine wp_seq ?_
  refine wp_region_lit ?_
  refine ql (.int .i64 v) (by kernel_rfl) (by kernel_rfl) ?_
  by_cases hc1 : v < (0 : Int)
  · skip
    refine ql (.bool true) (by kernel_rfl) (R_bool (p := v < (0 : Int)) (by kernel_rfl) (hc1)) ?_
    refine ql (.bool true) (by kernel_rfl) (by kernel_rfl) ?_
    refine qln (by kernel_rfl) ?_
    refine qln (by kernel_rfl) ?_
    refine qln (by kernel_rfl) ?_
    refine qln (by kernel_rfl) ?_
    refine ql (.bool true) (by kernel_rfl) (by kernel_rfl) ?_
    refine wpList_nil ?_
    refine x_then ?_
    refine wp_cond_true (by kernel_rfl) ?_
    refine wp_seq ?_
    refine wp_region_lit ?_
    refine ql (.slice none 0 0) (by kernel_rfl) (by kernel_rfl) ?_
    refine wpList_nil ?_
    refine x_then ?_
    refine wp_ret ?_
    refine x_thenR ?_
    refine ret_ (.slice none 0 0) (by kernel_rfl) ?_
    exact .inr ⟨by omega, rfl, HS⟩
  · skip
    refine ql (.bool false) (by kernel_rfl) (R_nbool (p := v < (0 : Int)) (by kernel_rfl) (hc1)) ?_
    refine ql (.bool false) (by kernel_rfl) (by kernel_rfl) ?_
    refine ql (.int .i64 v) (by kernel_rfl) (by kernel_rfl) ?_
    refine ql (.pointer (some ⟨g, 0, none⟩)) (by kernel_rfl) (by kernel_rfl) ?_
    refine qc (f := 17) (args := #[.pointer (some ⟨g, 0, none⟩)]) (by kernel_rfl) (R_call #[.pointer (some ⟨g, 0, none⟩)] Try.func17 (by kernel_rfl) (by kernel_rfl) (by kernel_rfl)) ?_
    refine (nodessome g N arcs _ (hG.below (HS.kept.below owns_nil))).mono ?_
    rintro e W2 ⟨rfl, H_⟩
    refine ⟨_, rfl, ?_⟩
    replace HS : St W (owns []) W2 [] := HS.join (F := []) (G := []) H_
    clear H_
    by_cases hc3 : v ≥ (N : Int)
    · skip
      refine ql (.bool true) (by kernel_rfl) (R_bool (p := v ≥ (N : Int)) (by kernel_rfl) (hc3)) ?_
      refine ql (.bool true) (by kernel_rfl) (by kernel_rfl) ?_
      refine wpList_nil ?_
      refine x_then ?_
      refine wp_cond_true (by kernel_rfl) ?_
      refine wp_seq ?_
      refine wp_region_lit ?_
      refine ql (.slice none 0 0) (by kernel_rfl) (by kernel_rfl) ?_
      refine wpList_nil ?_
      refine x_then ?_
      refine wp_ret ?_
      refine x_thenR ?_
      refine ret_ (.slice none 0 0) (by kernel_rfl) ?_
      exact .inr ⟨by omega, rfl, HS⟩
    · skip
      refine ql (.bool false) (by kernel_rfl) (R_nbool (p := v ≥ (N : Int)) (by kernel_rfl) (hc3)) ?_
      refine ql (.bool false) (by kernel_rfl) (by kernel_rfl) ?_
      refine wpList_nil ?_
      refine x_then ?_
      refine wp_cond_false (by kernel_rfl) ?_
      refine wp_skip ?_
      refine x_then ?_
      refine wp_seq ?_
      refine rg_still HS 20 (by kernel_rfl) (by kernel_rfl) ?_
      intro W4 H_ HK_
      simp only [List.take_succ_cons, List.take_zero, List.drop_succ_cons, List.drop_zero]
      replace HS : St W (owns []) W4 [] := H_
      clear H_
      clear HK_
      refine qs (.pointer (some ⟨g, 0, none⟩)) (by kernel_rfl) (by kernel_rfl) ?_
      refine qs (.pointer (some ⟨g, 0, none⟩)) (by kernel_rfl) (by kernel_rfl) ?_
      refine qs (.pointer (some ⟨g, 2, none⟩)) (by kernel_rfl) (by kernel_rfl) ?_
      refine qs (.slice A2 arcs.length c2) (by kernel_rfl) (R_load (p := ⟨g, 2, none⟩) (by kernel_rfl) (by kernel_rfl) (by kernel_rfl) (HS.old0 (cell_at (j := 2) hB rfl))) ?_
      refine qs (.pointer (some ⟨g, 0, none⟩)) (by kernel_rfl) (by kernel_rfl) ?_
      refine qs (.pointer (some ⟨g, 0, none⟩)) (by kernel_rfl) (by kernel_rfl) ?_
      refine qs (.pointer (some ⟨g, 4, none⟩)) (by kernel_rfl) (by kernel_rfl) ?_
      refine qs (.slice A4 (N + 1) c4) (by kernel_rfl) (R_load (p := ⟨g, 4, none⟩) (by kernel_rfl) (by kernel_rfl) (by kernel_rfl) (HS.old0 (cell_at (j := 4) hB rfl))) ?_
      refine qs (.int .i64 v) (by kernel_rfl) (by kernel_rfl) ?_
      obtain ⟨ad5, rfl⟩ := Rd.isSome_ r4 (by rw [ci_len]; omega)
      refine qs (.pointer (some (ad5.add v.toNat))) (by kernel_rfl) (R_indexA1 (k := .i64) (p := ad5) (n := (N + 1)) (c := c4) (i := v) (by kernel_rfl) (by kernel_rfl) Try.underlying67 (by kernel_rfl) (by omega) (by omega)) ?_
      refine qs (.int .i32 (rdI (bl N (keys false arcs)) v)) (by kernel_rfl) (R_load (p := ad5.add v.toNat) (by kernel_rfl) (by kernel_rfl) (by kernel_rfl) (HS.old0 (r4.at_ (ci_rd (by omega) (by omega))))) ?_
      refine qs (.pointer (some ⟨g, 0, none⟩)) (by kernel_rfl) (by kernel_rfl) ?_
      refine qs (.pointer (some ⟨g, 0, none⟩)) (by kernel_rfl) (by kernel_rfl) ?_
      refine qs (.pointer (some ⟨g, 4, none⟩)) (by kernel_rfl) (by kernel_rfl) ?_
      refine qs (.slice (some ad5) (N + 1) c4) (by kernel_rfl) (R_load (p := ⟨g, 4, none⟩) (by kernel_rfl) (by kernel_rfl) (by kernel_rfl) (HS.old0 (cell_at (j := 4) hB rfl))) ?_
      refine qs (.int .i64 v) (by kernel_rfl) (by kernel_rfl) ?_
      refine qs (.int .i64 (v + 1)) (by kernel_rfl) (R_int (by kernel_rfl) (w64 (by omega))) ?_
      refine qs (.pointer (some (ad5.add (v + 1).toNat))) (by kernel_rfl) (R_indexA1 (k := .i64) (p := ad5) (n := (N + 1)) (c := c4) (i := v + 1) (by kernel_rfl) (by kernel_rfl) Try.underlying67 (by kernel_rfl) (by omega) (by omega)) ?_
      refine qs (.int .i32 (rdI (bl N (keys false arcs)) (v + 1))) (by kernel_rfl) (R_load (p := ad5.add (v + 1).toNat) (by kernel_rfl) (by kernel_rfl) (by kernel_rfl) (HS.old0 (r4.at_ (ci_rd (by omega) (by omega))))) ?_
      have e1 := bl_rd (N := N) (ks := (keys false arcs)) (v := v) (by omega) (by omega)
      have e2 := bl_rd (N := N) (ks := (keys false arcs)) (v := v + 1) (by omega) (by omega)
      rw [low_succ] at e2
      have e3 := low_add (keys false arcs) v
      have e4 : (keys false arcs).length = arcs.length := keys_len _ _
      have e5 := l1.1
      have e6 := Int.natCast_add (low (keys false arcs) v) (cnt (keys false arcs) v)
      obtain ⟨B, cB, hB1, hB2⟩ := cut_rd (A := A2) (c := c2) (lo := (rdI (bl N (keys false arcs)) v).toNat) (hi := (rdI (bl N (keys false arcs)) (v + 1)).toNat) (xs := idxs (keys false arcs) v) r2 (by omega) (by omega) (by omega) (by rw [show (rdI (bl N (keys false arcs)) v).toNat = low (keys false arcs) v by omega, show (rdI (bl N (keys false arcs)) (v + 1)).toNat - low (keys false arcs) v = cnt (keys false arcs) v by omega]; exact laid_slice l1 (keys_len _ _) v)
      have hx1 : ∀ x ∈ idxs (keys false arcs) v, -2147483648 ≤ x ∧ x ≤ 2147483647 := fun x hx => by have hl := laid_slice l1 (keys_len _ _) v; rw [← hl] at hx; have := l1.2.1 x (List.mem_of_mem_drop (List.mem_of_mem_take hx)); omega
      refine qs (.slice B ((idxs (keys false arcs) v).length) cB) (by kernel_rfl) (R_eq (R_sliceLH (k := .i32) (k2 := .i32) (A := A2) (n := arcs.length) (c := c2) (i := rdI (bl N (keys false arcs)) v) (i2 := rdI (bl N (keys false arcs)) (v + 1)) (by kernel_rfl) (by kernel_rfl) (by kernel_rfl) Try.underlying67 (by kernel_rfl) (by omega) (by omega) (by omega)) hB1) ?_
      refine wpStill_nil ?_
      refine qc (f := 50) (args := #[.slice B ((idxs (keys false arcs) v).length) cB]) (by kernel_rfl) (R_call #[.slice B ((idxs (keys false arcs) v).length) cB] Try.func50 (by kernel_rfl) (by kernel_rfl) (by kernel_rfl)) ?_
      refine (ints_calls B cB _ _ (hB2.old0 HS) hx1 (by have := idxs_length (keys false arcs) v; omega)).mono ?_
      rintro e W6 ⟨A9, c9, rfl, H_⟩
      refine ⟨_, rfl, ?_⟩
      replace HS : St W (owns []) W6 [row A9 ((idxs (keys false arcs) v).length) c9 (ci .i64 (idxs (keys false arcs) v)) 3 1] := HS.join (F := []) (G := [row A9 ((idxs (keys false arcs) v).length) c9 (ci .i64 (idxs (keys false arcs) v)) 3 1]) H_
      clear H_
      refine ql (.slice A9 ((idxs (keys false arcs) v).length) c9) (by kernel_rfl) (by kernel_rfl) ?_
      refine wpList_nil ?_
      refine x_then ?_
      refine wp_ret ?_
      refine ret_ (.slice A9 ((idxs (keys false arcs) v).length) c9) (by kernel_rfl) ?_
      exact .inl ⟨by omega, by omega, _, _, rfl, HS⟩

set_option maxRecDepth 100000 in
set_option maxHeartbeats 1000000 in
theorem in_nil (W : World) (v : Int) : Calls Try.prog 20 #[.pointer none, .int .i64 v] W fun e W' => e = .returned (.slice none 0 0) ∧ St W (owns []) W' [] := by
  have HS : St W (owns []) W [] := St.start W _
  refine calls_enter [.pointer none, .int .i64 v, undef, undef, undef, undef, undef, undef, undef, undef, undef, undef, undef, undef, undef, undef, undef, undef, undef, undef, undef, undef, undef, undef, undef, undef, undef, undef, undef, undef, undef, undef, undef, undef] Try.func20 rfl (by kernel_rfl) ?_
  refine wp_seq ?_
  refine wp_region_lit ?_
  refine ql (.slice none 0 0) (by kernel_rfl) (by kernel_rfl) ?_
  refine wpList_nil ?_
  refine x_then ?_
  refine wp_seq ?_
  refine wp_seq ?_
  refine wp_region_lit ?_
  refine ql (.int .i64 v) (by kernel_rfl) (by kernel_rfl) ?_
  by_cases hc1 : v < (0 : Int)
  · skip
    refine ql (.bool true) (by kernel_rfl) (R_bool (p := v < (0 : Int)) (by kernel_rfl) (hc1)) ?_
    refine ql (.bool true) (by kernel_rfl) (by kernel_rfl) ?_
    refine qln (by kernel_rfl) ?_
    refine qln (by kernel_rfl) ?_
    refine qln (by kernel_rfl) ?_
    refine qln (by kernel_rfl) ?_
    refine ql (.bool true) (by kernel_rfl) (by kernel_rfl) ?_
    refine wpList_nil ?_
    refine x_then ?_
    refine wp_cond_true (by kernel_rfl) ?_
    refine wp_seq ?_
    refine wp_region_lit ?_
    refine ql (.slice none 0 0) (by kernel_rfl) (by kernel_rfl) ?_
    refine wpList_nil ?_
    refine x_then ?_
    refine wp_ret ?_
    refine x_thenR ?_
    refine ret_ (.slice none 0 0) (by kernel_rfl) ?_
    exact ⟨rfl, HS⟩
  · skip
    refine ql (.bool false) (by kernel_rfl) (R_nbool (p := v < (0 : Int)) (by kernel_rfl) (hc1)) ?_
    refine ql (.bool false) (by kernel_rfl) (by kernel_rfl) ?_
    refine ql (.int .i64 v) (by kernel_rfl) (by kernel_rfl) ?_
    refine ql (.pointer none) (by kernel_rfl) (by kernel_rfl) ?_
    refine qc (f := 17) (args := #[.pointer none]) (by kernel_rfl) (R_call #[.pointer none] Try.func17 (by kernel_rfl) (by kernel_rfl) (by kernel_rfl)) ?_
    refine (nodesnil _).mono ?_
    rintro e W2 ⟨rfl, H_⟩
    refine ⟨_, rfl, ?_⟩
    replace HS : St W (owns []) W2 [] := HS.join (F := []) (G := []) H_
    clear H_
    refine ql (.bool true) (by kernel_rfl) (R_bool (p := v ≥ (0 : Int)) (by kernel_rfl) (by omega)) ?_
    refine ql (.bool true) (by kernel_rfl) (by kernel_rfl) ?_
    refine wpList_nil ?_
    refine x_then ?_
    refine wp_cond_true (by kernel_rfl) ?_
    refine wp_seq ?_
    refine wp_region_lit ?_
    refine ql (.slice none 0 0) (by kernel_rfl) (by kernel_rfl) ?_
    refine wpList_nil ?_
    refine x_then ?_
    refine wp_ret ?_
    refine x_thenR ?_
    refine ret_ (.slice none 0 0) (by kernel_rfl) ?_
    exact ⟨rfl, HS⟩

set_option maxRecDepth 100000 in
set_option maxHeartbeats 1000000 in
theorem in_some (g N : Nat) (arcs : List (Int × Int)) (W : World) (hG : GAt W g N arcs) (v : Int) : Calls Try.prog 20 #[.pointer (some ⟨g, 0, none⟩), .int .i64 v] W fun e W' => (0 ≤ v ∧ v < N ∧ ∃ A' c', e = .returned (.slice A' (idxs (keys true arcs) v).length c') ∧ St W (owns []) W' [row A' (idxs (keys true arcs) v).length c' (ci .i64 (idxs (keys true arcs) v)) 3 1]) ∨ (¬ (0 ≤ v ∧ v < N) ∧ e = .returned (.slice none 0 0) ∧ St W (owns []) W' []) := by
  have HS : St W (owns []) W [] := St.start W _
  have hG_ := hG
  obtain ⟨A1, c1, A2, c2, A3, c3, A4, c4, A5, c5, os, js, hB, r1, r2, r3, r4, r5, l1, l2, hF, hN, hm, k2, k3, k4, k5⟩ := hG_
  have b1 := bl_len N (keys false arcs)
  have b2 := bl_len N (keys true arcs)
  refine calls_enter [.pointer (some ⟨g, 0, none⟩), .int .i64 v, undef, undef, undef, undef, undef, undef, undef, undef, undef, undef, undef, undef, undef, undef, undef, undef, undef, undef, undef, undef, undef, undef, undef, undef, undef, undef, undef, undef, undef, undef, undef, undef] Try.func20 rfl (by kernel_rfl) ?_
  refine wp_seq ?_
  refine wp_region_lit ?_
  refine ql (.slice none 0 0) (by kernel_rfl) (by kernel_rfl) ?_
  refine wpList_nil ?_
  refine x_then ?_
  refine wp_seq ?_
  refine wp_seq ?_
  refine wp_region_lit ?_
  refine ql (.int .i64 v) (by kernel_rfl) (by kernel_rfl) ?_
  by_cases hc1 : v < (0 : Int)
  · skip
    refine ql (.bool true) (by kernel_rfl) (R_bool (p := v < (0 : Int)) (by kernel_rfl) (hc1)) ?_
    refine ql (.bool true) (by kernel_rfl) (by kernel_rfl) ?_
    refine qln (by kernel_rfl) ?_
    refine qln (by kernel_rfl) ?_
    refine qln (by kernel_rfl) ?_
    refine qln (by kernel_rfl) ?_
    refine ql (.bool true) (by kernel_rfl) (by kernel_rfl) ?_
    refine wpList_nil ?_
    refine x_then ?_
    refine wp_cond_true (by kernel_rfl) ?_
    refine wp_seq ?_
    refine wp_region_lit ?_
    refine ql (.slice none 0 0) (by kernel_rfl) (by kernel_rfl) ?_
    refine wpList_nil ?_
    refine x_then ?_
    refine wp_ret ?_
    refine x_thenR ?_
    refine ret_ (.slice none 0 0) (by kernel_rfl) ?_
    exact .inr ⟨by omega, rfl, HS⟩
  · skip
    refine ql (.bool false) (by kernel_rfl) (R_nbool (p := v < (0 : Int)) (by kernel_rfl) (hc1)) ?_
    refine ql (.bool false) (by kernel_rfl) (by kernel_rfl) ?_
    refine ql (.int .i64 v) (by kernel_rfl) (by kernel_rfl) ?_
    refine ql (.pointer (some ⟨g, 0, none⟩)) (by kernel_rfl) (by kernel_rfl) ?_
    refine qc (f := 17) (args := #[.pointer (some ⟨g, 0, none⟩)]) (by kernel_rfl) (R_call #[.pointer (some ⟨g, 0, none⟩)] Try.func17 (by kernel_rfl) (by kernel_rfl) (by kernel_rfl)) ?_
    refine (nodessome g N arcs _ (hG.below (HS.kept.below owns_nil))).mono ?_
    rintro e W2 ⟨rfl, H_⟩
    refine ⟨_, rfl, ?_⟩
    replace HS : St W (owns []) W2 [] := HS.join (F := []) (G := []) H_
    clear H_
    by_cases hc3 : v ≥ (N : Int)
    · skip
      refine ql (.bool true) (by kernel_rfl) (R_bool (p := v ≥ (N : Int)) (by kernel_rfl) (hc3)) ?_
      refine ql (.bool true) (by kernel_rfl) (by kernel_rfl) ?_
      refine wpList_nil ?_
      refine x_then ?_
      refine wp_cond_true (by kernel_rfl) ?_
      refine wp_seq ?_
      refine wp_region_lit ?_
      refine ql (.slice none 0 0) (by kernel_rfl) (by kernel_rfl) ?_
      refine wpList_nil ?_
      refine x_then ?_
      refine wp_ret ?_
      refine x_thenR ?_
      refine ret_ (.slice none 0 0) (by kernel_rfl) ?_
      exact .inr ⟨by omega, rfl, HS⟩
    · skip
      refine ql (.bool false) (by kernel_rfl) (R_nbool (p := v ≥ (N : Int)) (by kernel_rfl) (hc3)) ?_
      refine ql (.bool false) (by kernel_rfl) (by kernel_rfl) ?_
      refine wpList_nil ?_
      refine x_then ?_
      refine wp_cond_false (by kernel_rfl) ?_
      refine wp_skip ?_
      refine x_then ?_
      refine wp_seq ?_
      refine rg_still HS 20 (by kernel_rfl) (by kernel_rfl) ?_
      intro W4 H_ HK_
      simp only [List.take_succ_cons, List.take_zero, List.drop_succ_cons, List.drop_zero]
      replace HS : St W (owns []) W4 [] := H_
      clear H_
      clear HK_
      refine qs (.pointer (some ⟨g, 0, none⟩)) (by kernel_rfl) (by kernel_rfl) ?_
      refine qs (.pointer (some ⟨g, 0, none⟩)) (by kernel_rfl) (by kernel_rfl) ?_
      refine qs (.pointer (some ⟨g, 3, none⟩)) (by kernel_rfl) (by kernel_rfl) ?_
      refine qs (.slice A3 arcs.length c3) (by kernel_rfl) (R_load (p := ⟨g, 3, none⟩) (by kernel_rfl) (by kernel_rfl) (by kernel_rfl) (HS.old0 (cell_at (j := 3) hB rfl))) ?_
      refine qs (.pointer (some ⟨g, 0, none⟩)) (by kernel_rfl) (by kernel_rfl) ?_
      refine qs (.pointer (some ⟨g, 0, none⟩)) (by kernel_rfl) (by kernel_rfl) ?_
      refine qs (.pointer (some ⟨g, 5, none⟩)) (by kernel_rfl) (by kernel_rfl) ?_
      refine qs (.slice A5 (N + 1) c5) (by kernel_rfl) (R_load (p := ⟨g, 5, none⟩) (by kernel_rfl) (by kernel_rfl) (by kernel_rfl) (HS.old0 (cell_at (j := 5) hB rfl))) ?_
      refine qs (.int .i64 v) (by kernel_rfl) (by kernel_rfl) ?_
      obtain ⟨ad5, rfl⟩ := Rd.isSome_ r5 (by rw [ci_len]; omega)
      refine qs (.pointer (some (ad5.add v.toNat))) (by kernel_rfl) (R_indexA1 (k := .i64) (p := ad5) (n := (N + 1)) (c := c5) (i := v) (by kernel_rfl) (by kernel_rfl) Try.underlying67 (by kernel_rfl) (by omega) (by omega)) ?_
      refine qs (.int .i32 (rdI (bl N (keys true arcs)) v)) (by kernel_rfl) (R_load (p := ad5.add v.toNat) (by kernel_rfl) (by kernel_rfl) (by kernel_rfl) (HS.old0 (r5.at_ (ci_rd (by omega) (by omega))))) ?_
      refine qs (.pointer (some ⟨g, 0, none⟩)) (by kernel_rfl) (by kernel_rfl) ?_
      refine qs (.pointer (some ⟨g, 0, none⟩)) (by kernel_rfl) (by kernel_rfl) ?_
      refine qs (.pointer (some ⟨g, 5, none⟩)) (by kernel_rfl) (by kernel_rfl) ?_
      refine qs (.slice (some ad5) (N + 1) c5) (by kernel_rfl) (R_load (p := ⟨g, 5, none⟩) (by kernel_rfl) (by kernel_rfl) (by kernel_rfl) (HS.old0 (cell_at (j := 5) hB rfl))) ?_
      refine qs (.int .i64 v) (by kernel_rfl) (by kernel_rfl) ?_
      refine qs (.int .i64 (v + 1)) (by kernel_rfl) (R_int (by kernel_rfl) (w64 (by omega))) ?_
      refine qs (.pointer (some (ad5.add (v + 1).toNat))) (by kernel_rfl) (R_indexA1 (k := .i64) (p := ad5) (n := (N + 1)) (c := c5) (i := v + 1) (by kernel_rfl) (by kernel_rfl) Try.underlying67 (by kernel_rfl) (by omega) (by omega)) ?_
      refine qs (.int .i32 (rdI (bl N (keys true arcs)) (v + 1))) (by kernel_rfl) (R_load (p := ad5.add (v + 1).toNat) (by kernel_rfl) (by kernel_rfl) (by kernel_rfl) (HS.old0 (r5.at_ (ci_rd (by omega) (by omega))))) ?_
      have e1 := bl_rd (N := N) (ks := (keys true arcs)) (v := v) (by omega) (by omega)
      have e2 := bl_rd (N := N) (ks := (keys true arcs)) (v := v + 1) (by omega) (by omega)
      rw [low_succ] at e2
      have e3 := low_add (keys true arcs) v
      have e4 : (keys true arcs).length = arcs.length := keys_len _ _
      have e5 := l2.1
      have e6 := Int.natCast_add (low (keys true arcs) v) (cnt (keys true arcs) v)
      obtain ⟨B, cB, hB1, hB2⟩ := cut_rd (A := A3) (c := c3) (lo := (rdI (bl N (keys true arcs)) v).toNat) (hi := (rdI (bl N (keys true arcs)) (v + 1)).toNat) (xs := idxs (keys true arcs) v) r3 (by omega) (by omega) (by omega) (by rw [show (rdI (bl N (keys true arcs)) v).toNat = low (keys true arcs) v by omega, show (rdI (bl N (keys true arcs)) (v + 1)).toNat - low (keys true arcs) v = cnt (keys true arcs) v by omega]; exact laid_slice l2 (keys_len _ _) v)
      have hx1 : ∀ x ∈ idxs (keys true arcs) v, -2147483648 ≤ x ∧ x ≤ 2147483647 := fun x hx => by have hl := laid_slice l2 (keys_len _ _) v; rw [← hl] at hx; have := l2.2.1 x (List.mem_of_mem_drop (List.mem_of_mem_take hx)); omega
      refine qs (.slice B ((idxs (keys true arcs) v).length) cB) (by kernel_rfl) (R_eq (R_sliceLH (k := .i32) (k2 := .i32) (A := A3) (n := arcs.length) (c := c3) (i := rdI (bl N (keys true arcs)) v) (i2 := rdI (bl N (keys true arcs)) (v + 1)) (by kernel_rfl) (by kernel_rfl) (by kernel_rfl) Try.underlying67 (by kernel_rfl) (by omega) (by omega) (by omega)) hB1) ?_
      refine wpStill_nil ?_
      refine qc (f := 50) (args := #[.slice B ((idxs (keys true arcs) v).length) cB]) (by kernel_rfl) (R_call #[.slice B ((idxs (keys true arcs) v).length) cB] Try.func50 (by kernel_rfl) (by kernel_rfl) (by kernel_rfl)) ?_
      refine (ints_calls B cB _ _ (hB2.old0 HS) hx1 (by have := idxs_length (keys true arcs) v; omega)).mono ?_
      rintro e W6 ⟨A9, c9, rfl, H_⟩
      refine ⟨_, rfl, ?_⟩
      replace HS : St W (owns []) W6 [row A9 ((idxs (keys true arcs) v).length) c9 (ci .i64 (idxs (keys true arcs) v)) 3 1] := HS.join (F := []) (G := [row A9 ((idxs (keys true arcs) v).length) c9 (ci .i64 (idxs (keys true arcs) v)) 3 1]) H_
      clear H_
      refine ql (.slice A9 ((idxs (keys true arcs) v).length) c9) (by kernel_rfl) (by kernel_rfl) ?_
      refine wpList_nil ?_
      refine x_then ?_
      refine wp_ret ?_
      refine ret_ (.slice A9 ((idxs (keys true arcs) v).length) c9) (by kernel_rfl) ?_
      exact .inl ⟨by omega, by omega, _, _, rfl, HS⟩

theorem out_yes (g N : Nat) (arcs : List (Int × Int)) (W : World) (hG : GAt W g N arcs) (v : Int) (h0 : 0 ≤ v) (h1 : v < N) : Calls Try.prog 19 #[.pointer (some ⟨g, 0, none⟩), .int .i64 v] W fun e W' => ∃ A' c', e = .returned (.slice A' (idxs (keys false arcs) v).length c') ∧ St W (owns []) W' [row A' (idxs (keys false arcs) v).length c' (ci .i64 (idxs (keys false arcs) v)) 3 1] :=
  (out_some g N arcs W hG v).mono fun e W' h => h.elim (fun ⟨_, _, x⟩ => x) (fun ⟨hn, _⟩ => absurd ⟨h0, h1⟩ hn)
theorem out_no (g N : Nat) (arcs : List (Int × Int)) (W : World) (hG : GAt W g N arcs) (v : Int) (h : ¬ (0 ≤ v ∧ v < N)) : Calls Try.prog 19 #[.pointer (some ⟨g, 0, none⟩), .int .i64 v] W fun e W' => e = .returned (.slice none 0 0) ∧ St W (owns []) W' [] :=
  (out_some g N arcs W hG v).mono fun e W' h2 => h2.elim (fun ⟨a, b, _⟩ => absurd ⟨a, b⟩ h) (fun ⟨_, x⟩ => x)

set_option maxRecDepth 100000 in
set_option maxHeartbeats 1000000 in
theorem next_nil (W : World) (v : Int) : Calls Try.prog 15 #[.pointer none, .int .i64 v] W fun e W' => e = .returned (.slice none 0 0) ∧ St W (owns []) W' [] := by
  have HS : St W (owns []) W [] := St.start W _
  refine calls_enter [.pointer none, .int .i64 v, undef, undef, undef, undef, undef, undef, undef, undef, undef, undef, undef, undef, undef, undef, undef, undef, undef, undef, undef, undef, undef, undef, undef, undef, undef, undef, undef, undef, undef] Try.func15 rfl (by kernel_rfl) ?_
  refine wp_seq ?_
  refine wp_region_lit ?_
  refine ql (.slice none 0 0) (by kernel_rfl) (by kernel_rfl) ?_
  refine wpList_nil ?_
  refine x_then ?_
  refine wp_seq ?_
  refine wp_region_lit ?_
  refine ql (.pointer none) (by kernel_rfl) (by kernel_rfl) ?_
  refine ql (.int .i64 v) (by kernel_rfl) (by kernel_rfl) ?_
  refine qc (f := 19) (args := #[.pointer none, .int .i64 v]) (by kernel_rfl) (R_call #[.pointer none, .int .i64 v] Try.func19 (by kernel_rfl) (by kernel_rfl) (by kernel_rfl)) ?_
  refine (out_nil _ v).mono ?_
  rintro e W1 ⟨rfl, H_⟩
  refine ⟨_, rfl, ?_⟩
  replace HS : St W (owns []) W1 [] := HS.join (F := []) (G := []) H_
  clear H_
  refine ql (.slice none 0 0) (by kernel_rfl) (by kernel_rfl) ?_
  refine wpList_nil ?_
  refine x_then ?_
  refine wp_seq ?_
  refine wp_seq ?_
  refine wp_region_lit ?_
  refine ql (.slice none 0 0) (by kernel_rfl) (by kernel_rfl) ?_
  refine ql (.int .i64 0) (by kernel_rfl) (by kernel_rfl) ?_
  refine ql (.int .i64 0) (by kernel_rfl) (by kernel_rfl) ?_
  refine wpList_nil ?_
  refine x_then ?_
  refine wp_block ?_
  refine wp_loop_ghost (fun kq a' w' => ∃ (J2 : Nat → Value) , a' = Fr [.pointer none, .int .i64 v, undef, undef, .slice none 0 0, .slice none 0 0, (J2 6), (J2 7), .pointer none, .int .i64 v, .slice none 0 0, .slice none 0 0, .int .i64 0, .int .i64 0, (J2 14), (J2 15), (J2 16), (J2 17), (J2 18), (J2 19), (J2 20), (J2 21), (J2 22), (J2 23), (J2 24), (J2 25), (J2 26), (J2 27), (J2 28), (J2 29), undef] ∧ kq = (0) ∧ St W (owns []) w' []) (0) ⟨(fun k_ : Nat => List.getD [.pointer none, .int .i64 v, undef, undef, .slice none 0 0, .slice none 0 0, undef, undef, .pointer none, .int .i64 v, .slice none 0 0, .slice none 0 0, .int .i64 0, .int .i64 0, undef, undef, undef, undef, undef, undef, undef, undef, undef, undef, undef, undef, undef, undef, undef, undef, undef] k_ undef), congrArg Fr (by kernel_rfl), rfl, HS⟩ ?_
  clear HS
  intro kq3 a' W4 hrel
  obtain ⟨J2, rfl, hk, HS⟩ := hrel
  refine wp_seq ?_
  refine wp_region_lit ?_
  refine ql (.bool false) (by kernel_rfl) (R_beq (b := decide ((0 : Int) < 0)) (by kernel_rfl) (by decide)) ?_
  refine wpList_nil ?_
  refine x_then ?_
  refine wp_seq ?_
  refine wp_cond_false (by kernel_rfl) ?_
  refine wp_exit ?_
  refine x_thenE ?_
  refine x_thenE ?_
  refine x_hit ?_
  refine x_then ?_
  refine wp_seq ?_
  refine wp_region_lit ?_
  refine ql (.slice none 0 0) (by kernel_rfl) (by kernel_rfl) ?_
  refine ql (.slice none 0 0) (by kernel_rfl) (by kernel_rfl) ?_
  refine wpList_nil ?_
  refine x_then ?_
  refine wp_ret ?_
  refine ret_ (.slice none 0 0) (by kernel_rfl) ?_
  exact ⟨rfl, HS⟩

set_option maxRecDepth 100000 in
set_option maxHeartbeats 1000000 in
theorem next_no (g N : Nat) (arcs : List (Int × Int)) (W : World) (hG : GAt W g N arcs) (v : Int) (hv : ¬ (0 ≤ v ∧ v < N)) : Calls Try.prog 15 #[.pointer (some ⟨g, 0, none⟩), .int .i64 v] W fun e W' => e = .returned (.slice none 0 0) ∧ St W (owns []) W' [] := by
  have HS : St W (owns []) W [] := St.start W _
  have hG_ := hG
  obtain ⟨A1, c1, A2, c2, A3, c3, A4, c4, A5, c5, os, js, hB, r1, r2, r3, r4, r5, l1, l2, hF, hN, hm, k2, k3, k4, k5⟩ := hG_
  have b1 := bl_len N (keys false arcs)
  have b2 := bl_len N (keys true arcs)
  refine calls_enter [.pointer (some ⟨g, 0, none⟩), .int .i64 v, undef, undef, undef, undef, undef, undef, undef, undef, undef, undef, undef, undef, undef, undef, undef, undef, undef, undef, undef, undef, undef, undef, undef, undef, undef, undef, undef, undef, undef] Try.func15 rfl (by kernel_rfl) ?_
  refine wp_seq ?_
  refine wp_region_lit ?_
  refine ql (.slice none 0 0) (by kernel_rfl) (by kernel_rfl) ?_
  refine wpList_nil ?_
  refine x_then ?_
  refine wp_seq ?_
  refine wp_region_lit ?_
  refine ql (.pointer (some ⟨g, 0, none⟩)) (by kernel_rfl) (by kernel_rfl) ?_
  refine ql (.int .i64 v) (by kernel_rfl) (by kernel_rfl) ?_
  refine qc (f := 19) (args := #[.pointer (some ⟨g, 0, none⟩), .int .i64 v]) (by kernel_rfl) (R_call #[.pointer (some ⟨g, 0, none⟩), .int .i64 v] Try.func19 (by kernel_rfl) (by kernel_rfl) (by kernel_rfl)) ?_
  refine (out_no g N arcs _ (hG.below (HS.kept.below owns_nil)) v hv).mono ?_
  rintro e W1 ⟨rfl, H_⟩
  refine ⟨_, rfl, ?_⟩
  replace HS : St W (owns []) W1 [] := HS.join (F := []) (G := []) H_
  clear H_
  refine ql (.slice none 0 0) (by kernel_rfl) (by kernel_rfl) ?_
  refine wpList_nil ?_
  refine x_then ?_
  refine wp_seq ?_
  refine wp_seq ?_
  refine wp_region_lit ?_
  refine ql (.slice none 0 0) (by kernel_rfl) (by kernel_rfl) ?_
  refine ql (.int .i64 0) (by kernel_rfl) (by kernel_rfl) ?_
  refine ql (.int .i64 0) (by kernel_rfl) (by kernel_rfl) ?_
  refine wpList_nil ?_
  refine x_then ?_
  refine wp_block ?_
  refine wp_loop_ghost (fun kq a' w' => ∃ (J2 : Nat → Value) , a' = Fr [.pointer (some ⟨g, 0, none⟩), .int .i64 v, undef, undef, .slice none 0 0, .slice none 0 0, (J2 6), (J2 7), .pointer (some ⟨g, 0, none⟩), .int .i64 v, .slice none 0 0, .slice none 0 0, .int .i64 0, .int .i64 0, (J2 14), (J2 15), (J2 16), (J2 17), (J2 18), (J2 19), (J2 20), (J2 21), (J2 22), (J2 23), (J2 24), (J2 25), (J2 26), (J2 27), (J2 28), (J2 29), undef] ∧ kq = (0) ∧ St W (owns []) w' []) (0) ⟨(fun k_ : Nat => List.getD [.pointer (some ⟨g, 0, none⟩), .int .i64 v, undef, undef, .slice none 0 0, .slice none 0 0, undef, undef, .pointer (some ⟨g, 0, none⟩), .int .i64 v, .slice none 0 0, .slice none 0 0, .int .i64 0, .int .i64 0, undef, undef, undef, undef, undef, undef, undef, undef, undef, undef, undef, undef, undef, undef, undef, undef, undef] k_ undef), congrArg Fr (by kernel_rfl), rfl, HS⟩ ?_
  clear HS
  intro kq3 a' W4 hrel
  obtain ⟨J2, rfl, hk, HS⟩ := hrel
  refine wp_seq ?_
  refine wp_region_lit ?_
  refine ql (.bool false) (by kernel_rfl) (R_beq (b := decide ((0 : Int) < 0)) (by kernel_rfl) (by decide)) ?_
  refine wpList_nil ?_
  refine x_then ?_
  refine wp_seq ?_
  refine wp_cond_false (by kernel_rfl) ?_
  refine wp_exit ?_
  refine x_thenE ?_
  refine x_thenE ?_
  refine x_hit ?_
  refine x_then ?_
  refine wp_seq ?_
  refine wp_region_lit ?_
  refine ql (.slice none 0 0) (by kernel_rfl) (by kernel_rfl) ?_
  refine ql (.slice none 0 0) (by kernel_rfl) (by kernel_rfl) ?_
  refine wpList_nil ?_
  refine x_then ?_
  refine wp_ret ?_
  refine ret_ (.slice none 0 0) (by kernel_rfl) ?_
  exact ⟨rfl, HS⟩

set_option maxRecDepth 100000 in
set_option maxHeartbeats 1000000 in
theorem next_yes (g N : Nat) (arcs : List (Int × Int)) (W : World) (hG : GAt W g N arcs) (v : Int) (h0 : 0 ≤ v) (h1 : v < N) : Calls Try.prog 15 #[.pointer (some ⟨g, 0, none⟩), .int .i64 v] W fun e W' => ∃ A' c', e = .returned (.slice A' (nexts arcs v).length c') ∧ St W (owns []) W' [row A' (nexts arcs v).length c' (ci .i64 (nexts arcs v)) 3 1] := by
  have HS : St W (owns []) W [] := St.start W _
  have hG_ := hG
  obtain ⟨A1, c1, A2, c2, A3, c3, A4, c4, A5, c5, os, js, hB, r1, r2, r3, r4, r5, l1, l2, hF, hN, hm, k2, k3, k4, k5⟩ := hG_
  have b1 := bl_len N (keys false arcs)
  have b2 := bl_len N (keys true arcs)
  refine calls_enter [.pointer (some ⟨g, 0, none⟩), .int .i64 v, undef, undef, undef, undef, undef, undef, undef, undef, undef, undef, undef, undef, undef, undef, undef, undef, undef, undef, undef, undef, undef, undef, undef, undef, undef, undef, undef, undef, undef] Try.func15 rfl (by kernel_rfl) ?_
  refine wp_seq ?_
  refine wp_region_lit ?_
  refine ql (.slice none 0 0) (by kernel_rfl) (by kernel_rfl) ?_
  refine wpList_nil ?_
  refine x_then ?_
  refine wp_seq ?_
  refine wp_region_lit ?_
  refine ql (.pointer (some ⟨g, 0, none⟩)) (by kernel_rfl) (by kernel_rfl) ?_
  refine ql (.int .i64 v) (by kernel_rfl) (by kernel_rfl) ?_
  refine qc (f := 19) (args := #[.pointer (some ⟨g, 0, none⟩), .int .i64 v]) (by kernel_rfl) (R_call #[.pointer (some ⟨g, 0, none⟩), .int .i64 v] Try.func19 (by kernel_rfl) (by kernel_rfl) (by kernel_rfl)) ?_
  refine (out_yes g N arcs _ (hG.below (HS.kept.below owns_nil)) v h0 h1).mono ?_
  rintro e W1 ⟨A9, c9, rfl, H_⟩
  refine ⟨_, rfl, ?_⟩
  replace HS : St W (owns []) W1 [row A9 ((idxs (keys false arcs) v).length) c9 (ci .i64 (idxs (keys false arcs) v)) 3 1] := HS.join (F := []) (G := [row A9 ((idxs (keys false arcs) v).length) c9 (ci .i64 (idxs (keys false arcs) v)) 3 1]) H_
  clear H_
  refine ql (.slice A9 ((idxs (keys false arcs) v).length) c9) (by kernel_rfl) (by kernel_rfl) ?_
  refine wpList_nil ?_
  refine x_then ?_
  refine wp_seq ?_
  refine wp_seq ?_
  refine wp_region_lit ?_
  refine ql (.slice A9 ((idxs (keys false arcs) v).length) c9) (by kernel_rfl) (by kernel_rfl) ?_
  refine ql (.int .i64 ((idxs (keys false arcs) v).length : Int)) (by kernel_rfl) (by kernel_rfl) ?_
  refine ql (.int .i64 0) (by kernel_rfl) (by kernel_rfl) ?_
  refine wpList_nil ?_
  refine x_then ?_
  refine wp_block ?_
  refine wp_loop_ghost (fun kq a' w' => ∃ (J2 : Nat → Value) (q : Int) (xs : List Int) , a' = Fr [.pointer (some ⟨g, 0, none⟩), .int .i64 v, undef, undef, .slice none 0 0, .slice A9 ((idxs (keys false arcs) v).length) c9, (J2 6), (J2 7), .pointer (some ⟨g, 0, none⟩), .int .i64 v, .slice A9 ((idxs (keys false arcs) v).length) c9, .slice A9 ((idxs (keys false arcs) v).length) c9, .int .i64 ((idxs (keys false arcs) v).length : Int), .int .i64 q, (J2 14), (J2 15), (J2 16), (J2 17), (J2 18), (J2 19), (J2 20), (J2 21), (J2 22), (J2 23), (J2 24), (J2 25), (J2 26), (J2 27), (J2 28), (J2 29), undef] ∧ kq = ((idxs (keys false arcs) v).length - (q).toNat) ∧ (0 ≤ q) ∧ (q ≤ (idxs (keys false arcs) v).length) ∧ (xs = ((idxs (keys false arcs) v).take (q).toNat).map (fun i => (gx arcs i).2) ++ (idxs (keys false arcs) v).drop (q).toNat) ∧ St W (owns []) w' [row A9 ((idxs (keys false arcs) v).length) c9 (ci .i64 xs) 3 1]) ((idxs (keys false arcs) v).length - ((0 : Int)).toNat) ⟨(fun k_ : Nat => List.getD [.pointer (some ⟨g, 0, none⟩), .int .i64 v, undef, undef, .slice none 0 0, .slice A9 ((idxs (keys false arcs) v).length) c9, undef, undef, .pointer (some ⟨g, 0, none⟩), .int .i64 v, .slice A9 ((idxs (keys false arcs) v).length) c9, .slice A9 ((idxs (keys false arcs) v).length) c9, .int .i64 ((idxs (keys false arcs) v).length : Int), .int .i64 0, undef, undef, undef, undef, undef, undef, undef, undef, undef, undef, undef, undef, undef, undef, undef, undef, undef] k_ undef), (0 : Int), idxs (keys false arcs) v, congrArg Fr (by kernel_rfl), rfl, by omega, by omega, by simp, HS⟩ ?_
  clear HS
  intro kq3 a' W4 hrel
  obtain ⟨J2, q, xs, rfl, hk, q0, q1, hx, HS⟩ := hrel
  have hil := idxs_le false arcs v
  have hxl : xs.length = (idxs (keys false arcs) v).length := by rw [hx, List.length_append, List.length_map, List.length_take, List.length_drop]; omega
  refine wp_seq ?_
  refine wp_region_lit ?_
  by_cases hc5 : q < ((idxs (keys false arcs) v).length : Int)
  · skip
    refine ql (.bool true) (by kernel_rfl) (R_bool (p := q < ((idxs (keys false arcs) v).length : Int)) (by kernel_rfl) (hc5)) ?_
    refine wpList_nil ?_
    refine x_then ?_
    refine wp_seq ?_
    refine wp_cond_true (by kernel_rfl) ?_
    refine wp_skip ?_
    refine x_then ?_
    refine wp_seq ?_
    refine wp_block ?_
    refine wp_seq ?_
    refine wp_region_lit ?_
    refine ql (.int .i64 q) (by kernel_rfl) (by kernel_rfl) ?_
    obtain ⟨g6, rfl⟩ := St.rsome HS (i := 0) rfl (by omega)
    refine ql (.pointer (some ⟨g6, q.toNat, none⟩)) (by kernel_rfl) (R_index1 (k := .i64) (g := g6) (n := ((idxs (keys false arcs) v).length)) (c := c9) (i := q) (by kernel_rfl) (by kernel_rfl) Try.underlying28 (by kernel_rfl) (by omega) (by omega)) ?_
    refine ql (.int .i64 (rdI xs q)) (by kernel_rfl) (R_load (p := ⟨g6, q.toNat, none⟩) (by kernel_rfl) (by kernel_rfl) (by kernel_rfl) (HS.rcell (i := 0) rfl (ci_rd (by omega) (by omega)))) ?_
    refine ql (.int .i64 q) (by kernel_rfl) (by kernel_rfl) ?_
    refine ql (.int .i64 (rdI xs q)) (by kernel_rfl) (by kernel_rfl) ?_
    refine wpList_nil ?_
    refine x_then ?_
    have hq := rdI_eq (xs := idxs (keys false arcs) v) q0 (by omega)
    have hns1 := (next_step hx q0 (by omega) rfl).1
    have hme := idxs_mem (List.mem_of_getElem? hq)
    rw [keys_len] at hme
    rw [← hns1] at hme
    refine wp_region_lit ?_
    refine ql (.slice (some ⟨g6, 0, none⟩) ((idxs (keys false arcs) v).length) c9) (by kernel_rfl) (by kernel_rfl) ?_
    refine ql (.int .i64 q) (by kernel_rfl) (by kernel_rfl) ?_
    refine ql (.pointer (some ⟨g, 0, none⟩)) (by kernel_rfl) (by kernel_rfl) ?_
    refine ql (.pointer (some ⟨g, 0, none⟩)) (by kernel_rfl) (by kernel_rfl) ?_
    refine ql (.pointer (some ⟨g, 1, none⟩)) (by kernel_rfl) (by kernel_rfl) ?_
    refine ql (.slice A1 arcs.length c1) (by kernel_rfl) (R_load (p := ⟨g, 1, none⟩) (by kernel_rfl) (by kernel_rfl) (by kernel_rfl) (HS.old0 (cell_at (j := 1) hB rfl))) ?_
    refine ql (.int .i64 (rdI xs q)) (by kernel_rfl) (by kernel_rfl) ?_
    obtain ⟨ad7, rfl⟩ := Rd.isSome_ r1 (by rw [cf_len (z := 2) (fun _ => rfl)]; omega)
    refine ql (.pointer (some (ad7.add ((rdI xs q).toNat * 2)))) (by kernel_rfl) (R_indexA (k := .i64) (p := ad7) (n := arcs.length) (c := c1) (i := rdI xs q) (by kernel_rfl) (by kernel_rfl) Try.underlying65 (by kernel_rfl) (by omega) (by omega)) ?_
    refine ql (.pointer (some ((ad7.add ((rdI xs q).toNat * 2)).add 1))) (by kernel_rfl) (by kernel_rfl) ?_
    refine ql (.int .i64 ((gx arcs (rdI xs q)).2)) (by kernel_rfl) (R_load (p := (ad7.add ((rdI xs q).toNat * 2)).add 1) (by kernel_rfl) (by kernel_rfl) (by kernel_rfl) (HS.old0 (Rd.elem1 (k := 1) (f := arcC) (fun _ => rfl) r1 (gx_eq (by omega) (by omega)) rfl))) ?_
    refine ql (.pointer (some ⟨g6, q.toNat, none⟩)) (by kernel_rfl) (R_index1 (k := .i64) (g := g6) (n := ((idxs (keys false arcs) v).length)) (c := c9) (i := q) (by kernel_rfl) (by kernel_rfl) Try.underlying28 (by kernel_rfl) (by omega) (by omega)) ?_
    refine kr (v := .int .i64 ((gx arcs (rdI xs q)).2)) HS 0 rfl (q.toNat) [.int .i64 ((gx arcs (rdI xs q)).2)] (by kernel_rfl) (by kernel_rfl) (by kernel_rfl) (by kernel_rfl) (by kernel_rfl) (one_ (by kernel_rfl)) (by rw [ci_len]; first | omega | (simp only [List.length_singleton]; omega)) rfl ?_
    intro W8 H_
    obtain ⟨xs9, xs9_⟩ : ∃ z_ : List Int, z_ = (xs).set q.toNat ((gx arcs (rdI xs q)).2) := ⟨_, rfl⟩
    replace HS : St W (owns []) W8 [row (some ⟨g6, 0, none⟩) ((idxs (keys false arcs) v).length) c9 (ci .i64 xs9) 3 1] := H_.cast_ (by rw [xs9_, ← ci_set]; rfl)
    clear H_
    have xs9l : xs9.length = (idxs (keys false arcs) v).length := by rw [xs9_, List.length_set]; first | done | omega
    refine wpList_nil ?_
    refine x_inb ?_
    refine x_then ?_
    refine wp_region_lit ?_
    refine ql (.int .i64 (q + 1)) (by kernel_rfl) (R_int (by kernel_rfl) (w64 (by omega))) ?_
    refine ql (.int .i64 (q + 1)) (by kernel_rfl) (by kernel_rfl) ?_
    refine wpList_nil ?_
    have hns := next_step hx q0 (by omega) xs9_
    refine x_then ?_
    exact ⟨(idxs (keys false arcs) v).length - (q + 1).toNat, by omega, (fun k_ : Nat => List.getD [.pointer (some ⟨g, 0, none⟩), .int .i64 v, undef, undef, .slice none 0 0, .slice (some ⟨g6, 0, none⟩) ((idxs (keys false arcs) v).length) c9, .int .i64 q, .int .i64 (rdI xs q), .pointer (some ⟨g, 0, none⟩), .int .i64 v, .slice (some ⟨g6, 0, none⟩) ((idxs (keys false arcs) v).length) c9, .slice (some ⟨g6, 0, none⟩) ((idxs (keys false arcs) v).length) c9, .int .i64 ((idxs (keys false arcs) v).length : Int), .int .i64 (q + 1), .bool true, .int .i64 q, .pointer (some ⟨g6, q.toNat, none⟩), .int .i64 (rdI xs q), .slice (some ⟨g6, 0, none⟩) ((idxs (keys false arcs) v).length) c9, .int .i64 q, .pointer (some ⟨g, 0, none⟩), .pointer (some ⟨g, 0, none⟩), .pointer (some ⟨g, 1, none⟩), .slice (some ad7) arcs.length c1, .int .i64 (rdI xs q), .pointer (some (ad7.add ((rdI xs q).toNat * 2))), .pointer (some ((ad7.add ((rdI xs q).toNat * 2)).add 1)), .int .i64 ((gx arcs (rdI xs q)).2), .pointer (some ⟨g6, q.toNat, none⟩), .int .i64 (q + 1), undef] k_ undef), q + 1, xs9, congrArg Fr (by kernel_rfl), rfl, by omega, by omega, hns.2, HS⟩
  · skip
    have hxe : xs = nexts arcs v := by rw [hx, List.take_of_length_le (by omega), List.drop_eq_nil_of_le (by omega), List.append_nil]; unfold nexts; rfl
    refine ql (.bool false) (by kernel_rfl) (R_nbool (p := q < ((idxs (keys false arcs) v).length : Int)) (by kernel_rfl) (hc5)) ?_
    refine wpList_nil ?_
    refine x_then ?_
    refine wp_seq ?_
    refine wp_cond_false (by kernel_rfl) ?_
    refine wp_exit ?_
    refine x_thenE ?_
    refine x_thenE ?_
    refine x_hit ?_
    refine x_then ?_
    refine wp_seq ?_
    refine wp_region_lit ?_
    refine ql (.slice A9 ((idxs (keys false arcs) v).length) c9) (by kernel_rfl) (by kernel_rfl) ?_
    refine ql (.slice A9 ((idxs (keys false arcs) v).length) c9) (by kernel_rfl) (by kernel_rfl) ?_
    refine wpList_nil ?_
    refine x_then ?_
    refine wp_ret ?_
    refine ret_ (.slice A9 ((idxs (keys false arcs) v).length) c9) (by kernel_rfl) ?_
    exact ⟨_, _, by rw [nexts_len], by rw [nexts_len]; exact HS.cast_ (by rw [hxe])⟩

end Go.Proofs.Ythfpdpjccnnlhaa.GBfsTells
