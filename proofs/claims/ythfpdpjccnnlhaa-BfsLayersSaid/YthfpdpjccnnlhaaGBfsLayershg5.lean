/- Written for this claim by gp.py, a program of this session's, over the kit's print. Lean checks it. -/
import Derived.Test.YthfpdpjccnnlhaaGBfsLayersx0
import Derived.Test.YthfpdpjccnnlhaaGBfsLayershx
import Derived.Test.YthfpdpjccnnlhaaGBfsLayershhp1
import Derived.Test.YthfpdpjccnnlhaaGBfsLayershhp2
import Derived.Test.YthfpdpjccnnlhaaGBfsLayershgp
import Derived.Test.YthfpdpjccnnlhaaGBfsLayershg3
import Derived.WalkKit
import Derived.StillTailTactics
import Derived.Deep.LoopGhost
import Derived.KernelRfl
import Derived.Deep.OwnRows
import Derived.Laws.OwnMore
import Derived.Laws.MakeOwn
import Derived.Maps.AppendAt
import Derived.OrdersHeld
namespace Go.Proofs.Ythfpdpjccnnlhaa.GBfsLayers
open Go.RowKit Go.Proofs.YthfpdpjccnnlhaaW.PrintWords Go.Proofs.YthfpdpjccnnlhaaW.PrintLast Go.Proofs.YthfpdpjccnnlhaaW.PrintMore
attribute [local go_sem] max2_int min2_int max_two min_two max_three min_three max_four min_four   -- for this text's walks alone
set_option linter.unusedVariables false
set_option linter.unusedSimpArgs false

--import Derived.WalkKit
--import Derived.StillTailTactics
--import Derived.Deep.LoopGhost
--import Derived.KernelRfl
--import Derived.Deep.OwnRows
--import Derived.Laws.OwnMore
--import Derived.Laws.MakeOwn
--import Derived.Maps.AppendAt
--import Derived.OrdersHeld
attribute [local irreducible] wpStill wpList Code.wp TA

set_option maxRecDepth 100000 in
set_option maxHeartbeats 1000000 in
theorem same_t (A B : Option Addr) (c d : Nat) (xs : List Int) (W : World) (hr : Rd W A (ci .i64 xs)) (hs : Rd W B (ci .i64 xs)) (hl : xs.length ≤ 1099511627776) : Calls Try.prog 23 #[.slice A xs.length c, .slice B xs.length d] W fun e W' => e = .returned (.bool true) ∧ St W (owns []) W' [] := by
  have HS : St W (owns []) W [] := St.start W _
  refine calls_enter [.slice A xs.length c, .slice B xs.length d, undef, undef, undef, undef, undef, undef, undef, undef, undef, undef, undef, undef, undef, undef, undef, undef, undef, undef, undef, undef, undef, undef, undef, undef] Try.func23 rfl (by kernel_rfl) ?_
  refine wp_seq ?_
  refine wp_region_lit ?_
  refine ql (.bool false) (by kernel_rfl) (by kernel_rfl) ?_
  refine wpList_nil ?_
  refine x_then ?_
  refine wp_seq ?_
  refine wp_seq ?_
  refine wp_region_lit ?_
  refine ql (.slice A xs.length c) (by kernel_rfl) (by kernel_rfl) ?_
  refine ql (.int .i64 (xs.length : Int)) (by kernel_rfl) (by kernel_rfl) ?_
  refine ql (.slice B xs.length d) (by kernel_rfl) (by kernel_rfl) ?_
  refine ql (.int .i64 (xs.length : Int)) (by kernel_rfl) (by kernel_rfl) ?_
  refine ql (.bool false) (by kernel_rfl) (R_beq (b := ((xs.length : Int) != (xs.length : Int))) (by kernel_rfl) (bne_f (by omega))) ?_
  refine wpList_nil ?_
  refine x_then ?_
  refine wp_cond_false (by kernel_rfl) ?_
  refine wp_skip ?_
  refine x_then ?_
  refine wp_seq ?_
  refine wp_seq ?_
  refine wp_region_lit ?_
  refine ql (.int .i64 0) (by kernel_rfl) (by kernel_rfl) ?_
  refine wpList_nil ?_
  refine x_then ?_
  refine wp_block ?_
  refine wp_loop_ghost (fun kq a' w' => ∃ (J1 : Nat → Value) (i : Int) , a' = Fr [.slice A xs.length c, .slice B xs.length d, undef, undef, (J1 4), .int .i64 i, .slice A xs.length c, .int .i64 (xs.length : Int), .slice B xs.length d, .int .i64 (xs.length : Int), .bool false, (J1 11), (J1 12), (J1 13), (J1 14), (J1 15), (J1 16), (J1 17), (J1 18), (J1 19), (J1 20), (J1 21), (J1 22), (J1 23), (J1 24), (J1 25)] ∧ kq = (xs.length - (i).toNat) ∧ (0 ≤ i) ∧ (i ≤ xs.length) ∧ St W (owns []) w' []) (xs.length - ((0 : Int)).toNat) ⟨(fun k_ : Nat => List.getD [.slice A xs.length c, .slice B xs.length d, undef, undef, .bool false, .int .i64 0, .slice A xs.length c, .int .i64 (xs.length : Int), .slice B xs.length d, .int .i64 (xs.length : Int), .bool false, undef, undef, undef, undef, undef, undef, undef, undef, undef, undef, undef, undef, undef, undef, undef] k_ undef), (0 : Int), congrArg Fr (by kernel_rfl), rfl, by omega, by omega, HS⟩ ?_
  clear HS
  intro kq2 a' W3 hrel
  obtain ⟨J1, i, rfl, hk, h0, h1, HS⟩ := hrel
  refine wp_seq ?_
  refine wp_seq ?_
  refine wp_region_lit ?_
  refine ql (.int .i64 i) (by kernel_rfl) (by kernel_rfl) ?_
  refine ql (.slice A xs.length c) (by kernel_rfl) (by kernel_rfl) ?_
  refine ql (.int .i64 (xs.length : Int)) (by kernel_rfl) (by kernel_rfl) ?_
  by_cases hc4 : i < (xs.length : Int)
  · skip
    refine ql (.bool true) (by kernel_rfl) (R_bool (p := i < (xs.length : Int)) (by kernel_rfl) (hc4)) ?_
    refine wpList_nil ?_
    refine x_then ?_
    refine wp_cond_true (by kernel_rfl) ?_
    refine wp_skip ?_
    refine x_then ?_
    refine wp_seq ?_
    refine wp_block ?_
    refine wp_seq ?_
    refine rg_still HS 8 (by kernel_rfl) (by kernel_rfl) ?_
    intro W5 H_ HK_
    simp only [List.take_succ_cons, List.take_zero, List.drop_succ_cons, List.drop_zero]
    replace HS : St W (owns []) W5 [] := H_
    clear H_
    clear HK_
    refine qs (.slice A xs.length c) (by kernel_rfl) (by kernel_rfl) ?_
    refine qs (.int .i64 i) (by kernel_rfl) (by kernel_rfl) ?_
    obtain ⟨ad6, rfl⟩ := Rd.isSome_ hr (by rw [ci_len]; omega)
    refine qs (.pointer (some (ad6.add i.toNat))) (by kernel_rfl) (R_indexA1 (k := .i64) (p := ad6) (n := xs.length) (c := c) (i := i) (by kernel_rfl) (by kernel_rfl) Try.underlying28 (by kernel_rfl) (by omega) (by omega)) ?_
    refine qs (.int .i64 (rdI xs i)) (by kernel_rfl) (R_load (p := ad6.add i.toNat) (by kernel_rfl) (by kernel_rfl) (by kernel_rfl) (HS.old0 (hr.at_ (ci_rd (by omega) (by omega))))) ?_
    refine qs (.slice B xs.length d) (by kernel_rfl) (by kernel_rfl) ?_
    refine qs (.int .i64 i) (by kernel_rfl) (by kernel_rfl) ?_
    obtain ⟨ad7, rfl⟩ := Rd.isSome_ hs (by rw [ci_len]; omega)
    refine qs (.pointer (some (ad7.add i.toNat))) (by kernel_rfl) (R_indexA1 (k := .i64) (p := ad7) (n := xs.length) (c := d) (i := i) (by kernel_rfl) (by kernel_rfl) Try.underlying28 (by kernel_rfl) (by omega) (by omega)) ?_
    refine qs (.int .i64 (rdI xs i)) (by kernel_rfl) (R_load (p := ad7.add i.toNat) (by kernel_rfl) (by kernel_rfl) (by kernel_rfl) (HS.old0 (hs.at_ (ci_rd (by omega) (by omega))))) ?_
    refine wpStill_nil ?_
    refine ql (.bool false) (by kernel_rfl) (R_beq (b := (rdI xs i != rdI xs i)) (by kernel_rfl) (bne_f (by omega))) ?_
    refine wpList_nil ?_
    refine x_then ?_
    refine wp_cond_false (by kernel_rfl) ?_
    refine wp_skip ?_
    refine x_inb ?_
    refine x_then ?_
    refine wp_region_lit ?_
    refine ql (.int .i64 i) (by kernel_rfl) (by kernel_rfl) ?_
    refine ql (.int .i64 (i + 1)) (by kernel_rfl) (R_int (by kernel_rfl) (w64 (by omega))) ?_
    refine ql (.int .i64 (i + 1)) (by kernel_rfl) (by kernel_rfl) ?_
    refine wpList_nil ?_
    refine x_then ?_
    exact ⟨xs.length - (i + 1).toNat, by omega, (fun k_ : Nat => List.getD [.slice (some ad6) xs.length c, .slice (some ad7) xs.length d, undef, undef, (J1 4), .int .i64 (i + 1), .slice (some ad6) xs.length c, .int .i64 (xs.length : Int), .slice (some ad7) xs.length d, .int .i64 (xs.length : Int), .bool false, .int .i64 i, .slice (some ad6) xs.length c, .int .i64 (xs.length : Int), .bool true, .int .i64 i, .int .i64 (i + 1), .slice (some ad6) xs.length c, .int .i64 i, .pointer (some (ad6.add i.toNat)), .int .i64 (rdI xs i), .slice (some ad7) xs.length d, .int .i64 i, .pointer (some (ad7.add i.toNat)), .int .i64 (rdI xs i), .bool false] k_ undef), i + 1, congrArg Fr (by kernel_rfl), rfl, by omega, by omega, HS⟩
  · skip
    refine ql (.bool false) (by kernel_rfl) (R_nbool (p := i < (xs.length : Int)) (by kernel_rfl) (hc4)) ?_
    refine wpList_nil ?_
    refine x_then ?_
    refine wp_cond_false (by kernel_rfl) ?_
    refine wp_exit ?_
    refine x_thenE ?_
    refine x_thenE ?_
    refine x_hit ?_
    refine x_then ?_
    refine wp_seq ?_
    refine wp_region_lit ?_
    refine ql (.bool true) (by kernel_rfl) (by kernel_rfl) ?_
    refine wpList_nil ?_
    refine x_then ?_
    refine wp_ret ?_
    refine ret_ (.bool true) (by kernel_rfl) ?_
    exact ⟨rfl, HS⟩

set_option maxRecDepth 100000 in
set_option maxHeartbeats 1000000 in
theorem ref_out (A : Option Addr) (c : Nat) (arcs : List (Int × Int)) (W : World) (hr : Rd W A (cf arcC arcs)) (hl : arcs.length ≤ 1048576) (v : Int) : Calls Try.prog 24 #[.slice A arcs.length c, .int .i64 v] W fun e W' => ∃ A' c', e = .returned (.slice A' (idxs (keys false arcs) v).length c') ∧ St W (owns []) W' [row A' (idxs (keys false arcs) v).length c' (ci .i64 (idxs (keys false arcs) v)) 3 1] := by
  have HS : St W (owns []) W [] := St.start W _
  refine calls_enter [.slice A arcs.length c, .int .i64 v, undef, undef, undef, undef, undef, undef, undef, undef, undef, undef, undef, undef, undef, undef, undef, undef, undef, undef, undef, undef, undef, undef, undef, undef] Try.func24 rfl (by kernel_rfl) ?_
  refine wp_seq ?_
  refine wp_region_lit ?_
  refine ql (.slice none 0 0) (by kernel_rfl) (by kernel_rfl) ?_
  refine wpList_nil ?_
  refine x_then ?_
  refine wp_seq ?_
  refine wp_region_lit ?_
  refine kl HS 0 [] 3 1 (by kernel_rfl) (by kernel_rfl) rfl (by decide) ?_
  intro g1 W2 H_
  replace HS : St W (owns []) W2 [row (some ⟨g1, 0, none⟩) 0 0 (ci .i64 ([])) 3 1] := H_.cast_ (by kernel_rfl)
  clear H_
  refine ql (.slice (some ⟨g1, 0, none⟩) 0 0) (by kernel_rfl) (by kernel_rfl) ?_
  refine wpList_nil ?_
  refine x_then ?_
  refine wp_seq ?_
  refine wp_seq ?_
  refine wp_region_lit ?_
  refine ql (.int .i64 0) (by kernel_rfl) (by kernel_rfl) ?_
  refine wpList_nil ?_
  refine x_then ?_
  refine wp_block ?_
  refine wp_loop_ghost (fun kq a' w' => ∃ (J3 : Nat → Value) (i : Int) (Ao : Option Addr) (co : Nat) (os : List Int) , a' = Fr [.slice A arcs.length c, .int .i64 v, undef, undef, .slice none 0 0, .slice Ao os.length co, .int .i64 i, .slice (some ⟨g1, 0, none⟩) 0 0, (J3 8), (J3 9), (J3 10), (J3 11), (J3 12), (J3 13), (J3 14), (J3 15), (J3 16), (J3 17), (J3 18), (J3 19), (J3 20), (J3 21), (J3 22), (J3 23), (J3 24), undef] ∧ kq = (arcs.length - (i).toNat) ∧ (0 ≤ i) ∧ (i ≤ arcs.length) ∧ (os = idxs ((keys false arcs).take (i).toNat) v) ∧ ((os.length : Int) ≤ i) ∧ St W (owns []) w' [row Ao os.length co (ci .i64 os) 3 1]) (arcs.length - ((0 : Int)).toNat) ⟨(fun k_ : Nat => List.getD [.slice A arcs.length c, .int .i64 v, undef, undef, .slice none 0 0, .slice (some ⟨g1, 0, none⟩) 0 0, .int .i64 0, .slice (some ⟨g1, 0, none⟩) 0 0, undef, undef, undef, undef, undef, undef, undef, undef, undef, undef, undef, undef, undef, undef, undef, undef, undef, undef] k_ undef), (0 : Int), some ⟨g1, 0, none⟩, 0, ([] : List Int), congrArg Fr (by kernel_rfl), rfl, by omega, by omega, by rw [Int.toNat_zero, List.take_zero]; unfold idxs; rfl, by simp, HS⟩ ?_
  clear HS
  intro kq4 a' W5 hrel
  obtain ⟨J3, i, Ao, co, os, rfl, hk, h0, h1, ho, hol, HS⟩ := hrel
  refine wp_seq ?_
  refine wp_seq ?_
  refine wp_region_lit ?_
  refine ql (.int .i64 i) (by kernel_rfl) (by kernel_rfl) ?_
  refine ql (.slice A arcs.length c) (by kernel_rfl) (by kernel_rfl) ?_
  refine ql (.int .i64 (arcs.length : Int)) (by kernel_rfl) (by kernel_rfl) ?_
  by_cases hc6 : i < (arcs.length : Int)
  · skip
    refine ql (.bool true) (by kernel_rfl) (R_bool (p := i < (arcs.length : Int)) (by kernel_rfl) (hc6)) ?_
    refine wpList_nil ?_
    refine x_then ?_
    refine wp_cond_true (by kernel_rfl) ?_
    refine wp_skip ?_
    refine x_then ?_
    refine wp_seq ?_
    refine wp_block ?_
    refine wp_seq ?_
    refine wp_region_lit ?_
    refine ql (.slice A arcs.length c) (by kernel_rfl) (by kernel_rfl) ?_
    refine ql (.int .i64 i) (by kernel_rfl) (by kernel_rfl) ?_
    obtain ⟨ad7, rfl⟩ := Rd.isSome_ hr (by rw [cf_len (z := 2) (fun _ => rfl)]; omega)
    refine ql (.pointer (some (ad7.add (i.toNat * 2)))) (by kernel_rfl) (R_indexA (k := .i64) (p := ad7) (n := arcs.length) (c := c) (i := i) (by kernel_rfl) (by kernel_rfl) Try.underlying22 (by kernel_rfl) (by omega) (by omega)) ?_
    refine ql (.pointer (some (ad7.add (i.toNat * 2)))) (by kernel_rfl) (by kernel_rfl) ?_
    refine ql (.int .i64 ((gx arcs i).1)) (by kernel_rfl) (R_load (p := ad7.add (i.toNat * 2)) (by kernel_rfl) (by kernel_rfl) (by kernel_rfl) (HS.old0 (Rd.elem0 (f := arcC) (fun _ => rfl) hr (gx_eq (by omega) (by omega)) rfl))) ?_
    refine ql (.int .i64 v) (by kernel_rfl) (by kernel_rfl) ?_
    by_cases hc8 : ((gx arcs i).1) = v
    · skip
      refine ql (.bool true) (by kernel_rfl) (R_beq (b := ((gx arcs i).1 == v)) (by kernel_rfl) (beq_t (hc8))) ?_
      refine wpList_nil ?_
      refine x_then ?_
      refine wp_cond_true (by kernel_rfl) ?_
      refine wp_region_lit ?_
      refine ql (.slice Ao os.length co) (by kernel_rfl) (by kernel_rfl) ?_
      refine ql (.int .i64 i) (by kernel_rfl) (by kernel_rfl) ?_
      refine kl HS 1 [.int .i64 i] 3 1 (by kernel_rfl) (by kernel_rfl) rfl (by decide) ?_
      intro g9 W10 H_
      replace HS : St W (owns []) W10 [row (some ⟨g9, 0, none⟩) 1 1 (ci .i64 ([i])) 3 1, row Ao os.length co (ci .i64 os) 3 1] := H_.cast_ (by kernel_rfl)
      clear H_
      obtain ⟨xs14, xs14_⟩ : ∃ z_ : List Int, z_ = os ++ ([i]) := ⟨_, rfl⟩
      have xs14l : xs14.length = os.length + 1 := by rw [xs14_, List.length_append] <;> (try simp only [List.length_cons, List.length_nil]) <;> omega
      refine ka1 HS 1 rfl (Src.of_row HS (i := 0) rfl ci_one) [.int .i64 0] 8 xs14.length (ci .i64 xs14) (by omega) (by rw [xs14_, ci_app]) (by kernel_rfl) (by kernel_rfl) (by kernel_rfl) Try.underlying28 (by kernel_rfl) (by kernel_rfl) (by kernel_rfl) (by kernel_rfl) (by decide) (by omega) (by omega) ?_
      intro A11 c12 W13 H_
      replace HS : St W (owns []) W13 [row (some ⟨g9, 0, none⟩) 1 1 (ci .i64 ([i])) 3 1, row A11 xs14.length c12 (ci .i64 xs14) 3 1] := H_
      clear H_
      refine ql (.slice A11 xs14.length c12) (by kernel_rfl) (by kernel_rfl) ?_
      refine wpList_nil ?_
      refine x_inb ?_
      refine x_then ?_
      refine wp_region_lit ?_
      refine ql (.int .i64 i) (by kernel_rfl) (by kernel_rfl) ?_
      refine ql (.int .i64 (i + 1)) (by kernel_rfl) (R_int (by kernel_rfl) (w64 (by omega))) ?_
      refine ql (.int .i64 (i + 1)) (by kernel_rfl) (by kernel_rfl) ?_
      refine wpList_nil ?_
      replace HS := HS.drop1
      have hst := out_step (v := v) h0 (by omega)
      rw [if_pos hc8, ← ho] at hst
      refine x_then ?_
      exact ⟨arcs.length - (i + 1).toNat, by omega, (fun k_ : Nat => List.getD [.slice (some ad7) arcs.length c, .int .i64 v, undef, undef, .slice none 0 0, .slice A11 xs14.length c12, .int .i64 (i + 1), .slice (some ⟨g1, 0, none⟩) 0 0, .int .i64 i, .slice (some ad7) arcs.length c, .int .i64 (arcs.length : Int), .bool true, .int .i64 i, .int .i64 (i + 1), .slice (some ad7) arcs.length c, .int .i64 i, .pointer (some (ad7.add (i.toNat * 2))), .pointer (some (ad7.add (i.toNat * 2))), .int .i64 ((gx arcs i).1), .int .i64 v, .bool true, .slice Ao os.length co, .int .i64 i, .slice (some ⟨g9, 0, none⟩) 1 1, .slice A11 xs14.length c12, undef] k_ undef), i + 1, A11, c12, xs14, congrArg Fr (by kernel_rfl), rfl, by omega, by omega, by rw [hst, xs14_], by omega, HS⟩
    · skip
      refine ql (.bool false) (by kernel_rfl) (R_beq (b := ((gx arcs i).1 == v)) (by kernel_rfl) (beq_f (hc8))) ?_
      refine wpList_nil ?_
      refine x_then ?_
      refine wp_cond_false (by kernel_rfl) ?_
      refine wp_skip ?_
      refine x_inb ?_
      refine x_then ?_
      refine wp_region_lit ?_
      refine ql (.int .i64 i) (by kernel_rfl) (by kernel_rfl) ?_
      refine ql (.int .i64 (i + 1)) (by kernel_rfl) (R_int (by kernel_rfl) (w64 (by omega))) ?_
      refine ql (.int .i64 (i + 1)) (by kernel_rfl) (by kernel_rfl) ?_
      refine wpList_nil ?_
      have hst := out_step (v := v) h0 (by omega)
      rw [if_neg hc8, ← ho] at hst
      refine x_then ?_
      exact ⟨arcs.length - (i + 1).toNat, by omega, (fun k_ : Nat => List.getD [.slice (some ad7) arcs.length c, .int .i64 v, undef, undef, .slice none 0 0, .slice Ao os.length co, .int .i64 (i + 1), .slice (some ⟨g1, 0, none⟩) 0 0, .int .i64 i, .slice (some ad7) arcs.length c, .int .i64 (arcs.length : Int), .bool true, .int .i64 i, .int .i64 (i + 1), .slice (some ad7) arcs.length c, .int .i64 i, .pointer (some (ad7.add (i.toNat * 2))), .pointer (some (ad7.add (i.toNat * 2))), .int .i64 ((gx arcs i).1), .int .i64 v, .bool false, (J3 21), (J3 22), (J3 23), (J3 24), undef] k_ undef), i + 1, Ao, co, os, congrArg Fr (by kernel_rfl), rfl, by omega, by omega, by rw [hst, List.append_nil], by omega, HS⟩
  · skip
    have hre : os = idxs (keys false arcs) v := by rw [ho, List.take_of_length_le (by rw [keys_len]; omega)]
    refine ql (.bool false) (by kernel_rfl) (R_nbool (p := i < (arcs.length : Int)) (by kernel_rfl) (hc6)) ?_
    refine wpList_nil ?_
    refine x_then ?_
    refine wp_cond_false (by kernel_rfl) ?_
    refine wp_exit ?_
    refine x_thenE ?_
    refine x_thenE ?_
    refine x_hit ?_
    refine x_then ?_
    refine wp_seq ?_
    refine wp_region_lit ?_
    refine ql (.slice Ao os.length co) (by kernel_rfl) (by kernel_rfl) ?_
    refine ql (.slice Ao os.length co) (by kernel_rfl) (by kernel_rfl) ?_
    refine wpList_nil ?_
    refine x_then ?_
    refine wp_ret ?_
    refine ret_ (.slice Ao os.length co) (by kernel_rfl) ?_
    subst hre
    exact ⟨_, _, rfl, HS⟩

set_option maxRecDepth 100000 in
set_option maxHeartbeats 1000000 in
theorem ref_next (A : Option Addr) (c : Nat) (arcs : List (Int × Int)) (W : World) (hr : Rd W A (cf arcC arcs)) (hl : arcs.length ≤ 1048576) (v : Int) : Calls Try.prog 26 #[.slice A arcs.length c, .int .i64 v] W fun e W' => ∃ A' c', e = .returned (.slice A' (nexts arcs v).length c') ∧ St W (owns []) W' [row A' (nexts arcs v).length c' (ci .i64 (nexts arcs v)) 3 1] := by
  have HS : St W (owns []) W [] := St.start W _
  refine calls_enter [.slice A arcs.length c, .int .i64 v, undef, undef, undef, undef, undef, undef, undef, undef, undef, undef, undef, undef, undef, undef, undef, undef, undef, undef, undef, undef, undef, undef, undef, undef, undef, undef, undef, undef] Try.func26 rfl (by kernel_rfl) ?_
  refine wp_seq ?_
  refine wp_region_lit ?_
  refine ql (.slice none 0 0) (by kernel_rfl) (by kernel_rfl) ?_
  refine wpList_nil ?_
  refine x_then ?_
  refine wp_seq ?_
  refine wp_region_lit ?_
  refine kl HS 0 [] 3 1 (by kernel_rfl) (by kernel_rfl) rfl (by decide) ?_
  intro g1 W2 H_
  replace HS : St W (owns []) W2 [row (some ⟨g1, 0, none⟩) 0 0 (ci .i64 ([])) 3 1] := H_.cast_ (by kernel_rfl)
  clear H_
  refine ql (.slice (some ⟨g1, 0, none⟩) 0 0) (by kernel_rfl) (by kernel_rfl) ?_
  refine wpList_nil ?_
  refine x_then ?_
  refine wp_seq ?_
  refine wp_seq ?_
  refine wp_region_lit ?_
  refine ql (.int .i64 0) (by kernel_rfl) (by kernel_rfl) ?_
  refine wpList_nil ?_
  refine x_then ?_
  refine wp_block ?_
  refine wp_loop_ghost (fun kq a' w' => ∃ (J3 : Nat → Value) (i : Int) (Ao : Option Addr) (co : Nat) (os : List Int) , a' = Fr [.slice A arcs.length c, .int .i64 v, undef, undef, .slice none 0 0, .slice Ao os.length co, .int .i64 i, .slice (some ⟨g1, 0, none⟩) 0 0, (J3 8), (J3 9), (J3 10), (J3 11), (J3 12), (J3 13), (J3 14), (J3 15), (J3 16), (J3 17), (J3 18), (J3 19), (J3 20), (J3 21), (J3 22), (J3 23), (J3 24), (J3 25), (J3 26), (J3 27), (J3 28), undef] ∧ kq = (arcs.length - (i).toNat) ∧ (0 ≤ i) ∧ (i ≤ arcs.length) ∧ (os = nexts (arcs.take (i).toNat) v) ∧ ((os.length : Int) ≤ i) ∧ St W (owns []) w' [row Ao os.length co (ci .i64 os) 3 1]) (arcs.length - ((0 : Int)).toNat) ⟨(fun k_ : Nat => List.getD [.slice A arcs.length c, .int .i64 v, undef, undef, .slice none 0 0, .slice (some ⟨g1, 0, none⟩) 0 0, .int .i64 0, .slice (some ⟨g1, 0, none⟩) 0 0, undef, undef, undef, undef, undef, undef, undef, undef, undef, undef, undef, undef, undef, undef, undef, undef, undef, undef, undef, undef, undef, undef] k_ undef), (0 : Int), some ⟨g1, 0, none⟩, 0, ([] : List Int), congrArg Fr (by kernel_rfl), rfl, by omega, by omega, by rw [Int.toNat_zero, List.take_zero]; unfold nexts idxs keys; rfl, by simp, HS⟩ ?_
  clear HS
  intro kq4 a' W5 hrel
  obtain ⟨J3, i, Ao, co, os, rfl, hk, h0, h1, ho, hol, HS⟩ := hrel
  refine wp_seq ?_
  refine wp_seq ?_
  refine wp_region_lit ?_
  refine ql (.int .i64 i) (by kernel_rfl) (by kernel_rfl) ?_
  refine ql (.slice A arcs.length c) (by kernel_rfl) (by kernel_rfl) ?_
  refine ql (.int .i64 (arcs.length : Int)) (by kernel_rfl) (by kernel_rfl) ?_
  by_cases hc6 : i < (arcs.length : Int)
  · skip
    refine ql (.bool true) (by kernel_rfl) (R_bool (p := i < (arcs.length : Int)) (by kernel_rfl) (hc6)) ?_
    refine wpList_nil ?_
    refine x_then ?_
    refine wp_cond_true (by kernel_rfl) ?_
    refine wp_skip ?_
    refine x_then ?_
    refine wp_seq ?_
    refine wp_block ?_
    refine wp_seq ?_
    refine wp_region_lit ?_
    refine ql (.slice A arcs.length c) (by kernel_rfl) (by kernel_rfl) ?_
    refine ql (.int .i64 i) (by kernel_rfl) (by kernel_rfl) ?_
    obtain ⟨ad7, rfl⟩ := Rd.isSome_ hr (by rw [cf_len (z := 2) (fun _ => rfl)]; omega)
    refine ql (.pointer (some (ad7.add (i.toNat * 2)))) (by kernel_rfl) (R_indexA (k := .i64) (p := ad7) (n := arcs.length) (c := c) (i := i) (by kernel_rfl) (by kernel_rfl) Try.underlying22 (by kernel_rfl) (by omega) (by omega)) ?_
    refine ql (.pointer (some (ad7.add (i.toNat * 2)))) (by kernel_rfl) (by kernel_rfl) ?_
    refine ql (.int .i64 ((gx arcs i).1)) (by kernel_rfl) (R_load (p := ad7.add (i.toNat * 2)) (by kernel_rfl) (by kernel_rfl) (by kernel_rfl) (HS.old0 (Rd.elem0 (f := arcC) (fun _ => rfl) hr (gx_eq (by omega) (by omega)) rfl))) ?_
    refine ql (.int .i64 v) (by kernel_rfl) (by kernel_rfl) ?_
    by_cases hc8 : ((gx arcs i).1) = v
    · skip
      refine ql (.bool true) (by kernel_rfl) (R_beq (b := ((gx arcs i).1 == v)) (by kernel_rfl) (beq_t (hc8))) ?_
      refine wpList_nil ?_
      refine x_then ?_
      refine wp_cond_true (by kernel_rfl) ?_
      refine wp_region_lit ?_
      refine ql (.slice Ao os.length co) (by kernel_rfl) (by kernel_rfl) ?_
      refine ql (.slice (some ad7) arcs.length c) (by kernel_rfl) (by kernel_rfl) ?_
      refine ql (.int .i64 i) (by kernel_rfl) (by kernel_rfl) ?_
      refine ql (.pointer (some (ad7.add (i.toNat * 2)))) (by kernel_rfl) (R_indexA (k := .i64) (p := ad7) (n := arcs.length) (c := c) (i := i) (by kernel_rfl) (by kernel_rfl) Try.underlying22 (by kernel_rfl) (by omega) (by omega)) ?_
      refine ql (.pointer (some ((ad7.add (i.toNat * 2)).add 1))) (by kernel_rfl) (by kernel_rfl) ?_
      refine ql (.int .i64 ((gx arcs i).2)) (by kernel_rfl) (R_load (p := (ad7.add (i.toNat * 2)).add 1) (by kernel_rfl) (by kernel_rfl) (by kernel_rfl) (HS.old0 (Rd.elem1 (k := 1) (f := arcC) (fun _ => rfl) hr (gx_eq (by omega) (by omega)) rfl))) ?_
      refine kl HS 1 [.int .i64 ((gx arcs i).2)] 3 1 (by kernel_rfl) (by kernel_rfl) rfl (by decide) ?_
      intro g9 W10 H_
      replace HS : St W (owns []) W10 [row (some ⟨g9, 0, none⟩) 1 1 (ci .i64 ([(gx arcs i).2])) 3 1, row Ao os.length co (ci .i64 os) 3 1] := H_.cast_ (by kernel_rfl)
      clear H_
      obtain ⟨xs14, xs14_⟩ : ∃ z_ : List Int, z_ = os ++ ([(gx arcs i).2]) := ⟨_, rfl⟩
      have xs14l : xs14.length = os.length + 1 := by rw [xs14_, List.length_append] <;> (try simp only [List.length_cons, List.length_nil]) <;> omega
      refine ka1 HS 1 rfl (Src.of_row HS (i := 0) rfl ci_one) [.int .i64 0] 8 xs14.length (ci .i64 xs14) (by omega) (by rw [xs14_, ci_app]) (by kernel_rfl) (by kernel_rfl) (by kernel_rfl) Try.underlying28 (by kernel_rfl) (by kernel_rfl) (by kernel_rfl) (by kernel_rfl) (by decide) (by omega) (by omega) ?_
      intro A11 c12 W13 H_
      replace HS : St W (owns []) W13 [row (some ⟨g9, 0, none⟩) 1 1 (ci .i64 ([(gx arcs i).2])) 3 1, row A11 xs14.length c12 (ci .i64 xs14) 3 1] := H_
      clear H_
      refine ql (.slice A11 xs14.length c12) (by kernel_rfl) (by kernel_rfl) ?_
      refine wpList_nil ?_
      refine x_inb ?_
      refine x_then ?_
      refine wp_region_lit ?_
      refine ql (.int .i64 i) (by kernel_rfl) (by kernel_rfl) ?_
      refine ql (.int .i64 (i + 1)) (by kernel_rfl) (R_int (by kernel_rfl) (w64 (by omega))) ?_
      refine ql (.int .i64 (i + 1)) (by kernel_rfl) (by kernel_rfl) ?_
      refine wpList_nil ?_
      replace HS := HS.drop1
      have hst := nx_step (v := v) h0 (by omega)
      rw [if_pos hc8, ← ho] at hst
      refine x_then ?_
      exact ⟨arcs.length - (i + 1).toNat, by omega, (fun k_ : Nat => List.getD [.slice (some ad7) arcs.length c, .int .i64 v, undef, undef, .slice none 0 0, .slice A11 xs14.length c12, .int .i64 (i + 1), .slice (some ⟨g1, 0, none⟩) 0 0, .int .i64 i, .slice (some ad7) arcs.length c, .int .i64 (arcs.length : Int), .bool true, .int .i64 i, .int .i64 (i + 1), .slice (some ad7) arcs.length c, .int .i64 i, .pointer (some (ad7.add (i.toNat * 2))), .pointer (some (ad7.add (i.toNat * 2))), .int .i64 ((gx arcs i).1), .int .i64 v, .bool true, .slice Ao os.length co, .slice (some ad7) arcs.length c, .int .i64 i, .pointer (some (ad7.add (i.toNat * 2))), .pointer (some ((ad7.add (i.toNat * 2)).add 1)), .int .i64 ((gx arcs i).2), .slice (some ⟨g9, 0, none⟩) 1 1, .slice A11 xs14.length c12, undef] k_ undef), i + 1, A11, c12, xs14, congrArg Fr (by kernel_rfl), rfl, by omega, by omega, by rw [hst, xs14_], by omega, HS⟩
    · skip
      refine ql (.bool false) (by kernel_rfl) (R_beq (b := ((gx arcs i).1 == v)) (by kernel_rfl) (beq_f (hc8))) ?_
      refine wpList_nil ?_
      refine x_then ?_
      refine wp_cond_false (by kernel_rfl) ?_
      refine wp_skip ?_
      refine x_inb ?_
      refine x_then ?_
      refine wp_region_lit ?_
      refine ql (.int .i64 i) (by kernel_rfl) (by kernel_rfl) ?_
      refine ql (.int .i64 (i + 1)) (by kernel_rfl) (R_int (by kernel_rfl) (w64 (by omega))) ?_
      refine ql (.int .i64 (i + 1)) (by kernel_rfl) (by kernel_rfl) ?_
      refine wpList_nil ?_
      have hst := nx_step (v := v) h0 (by omega)
      rw [if_neg hc8, ← ho] at hst
      refine x_then ?_
      exact ⟨arcs.length - (i + 1).toNat, by omega, (fun k_ : Nat => List.getD [.slice (some ad7) arcs.length c, .int .i64 v, undef, undef, .slice none 0 0, .slice Ao os.length co, .int .i64 (i + 1), .slice (some ⟨g1, 0, none⟩) 0 0, .int .i64 i, .slice (some ad7) arcs.length c, .int .i64 (arcs.length : Int), .bool true, .int .i64 i, .int .i64 (i + 1), .slice (some ad7) arcs.length c, .int .i64 i, .pointer (some (ad7.add (i.toNat * 2))), .pointer (some (ad7.add (i.toNat * 2))), .int .i64 ((gx arcs i).1), .int .i64 v, .bool false, (J3 21), (J3 22), (J3 23), (J3 24), (J3 25), (J3 26), (J3 27), (J3 28), undef] k_ undef), i + 1, Ao, co, os, congrArg Fr (by kernel_rfl), rfl, by omega, by omega, by rw [hst, List.append_nil], by omega, HS⟩
  · skip
    have hre : os = nexts arcs v := by rw [ho, List.take_of_length_le (by omega)]
    refine ql (.bool false) (by kernel_rfl) (R_nbool (p := i < (arcs.length : Int)) (by kernel_rfl) (hc6)) ?_
    refine wpList_nil ?_
    refine x_then ?_
    refine wp_cond_false (by kernel_rfl) ?_
    refine wp_exit ?_
    refine x_thenE ?_
    refine x_thenE ?_
    refine x_hit ?_
    refine x_then ?_
    refine wp_seq ?_
    refine wp_region_lit ?_
    refine ql (.slice Ao os.length co) (by kernel_rfl) (by kernel_rfl) ?_
    refine ql (.slice Ao os.length co) (by kernel_rfl) (by kernel_rfl) ?_
    refine wpList_nil ?_
    refine x_then ?_
    refine wp_ret ?_
    refine ret_ (.slice Ao os.length co) (by kernel_rfl) ?_
    subst hre
    exact ⟨_, _, rfl, HS⟩

set_option maxRecDepth 100000 in
set_option maxHeartbeats 1000000 in
theorem ref_turn (A : Option Addr) (c : Nat) (arcs : List (Int × Int)) (W : World) (hr : Rd W A (cf arcC arcs)) (hl : arcs.length ≤ 1048576) : Calls Try.prog 25 #[.slice A arcs.length c] W fun e W' => ∃ A' c', e = .returned (.slice A' (arcs.map swap).length c') ∧ St W (owns []) W' [row A' (arcs.map swap).length c' (cf arcC (arcs.map swap)) 38 2] := by
  have HS : St W (owns []) W [] := St.start W _
  refine calls_enter [.slice A arcs.length c, undef, undef, undef, undef, undef, undef, undef, undef, undef, undef, undef, undef, undef, undef, undef, undef, undef, undef, undef, undef, undef, undef, undef, undef, undef, undef] Try.func25 rfl (by kernel_rfl) ?_
  refine wp_seq ?_
  refine wp_region_lit ?_
  refine ql (.slice none 0 0) (by kernel_rfl) (by kernel_rfl) ?_
  refine wpList_nil ?_
  refine x_then ?_
  refine wp_seq ?_
  refine wp_region_lit ?_
  refine kl HS 0 [] 38 2 (by kernel_rfl) (by kernel_rfl) rfl (by decide) ?_
  intro g1 W2 H_
  replace HS : St W (owns []) W2 [row (some ⟨g1, 0, none⟩) 0 0 (cf arcC ([])) 38 2] := H_.cast_ (by kernel_rfl)
  clear H_
  refine ql (.slice (some ⟨g1, 0, none⟩) 0 0) (by kernel_rfl) (by kernel_rfl) ?_
  refine wpList_nil ?_
  refine x_then ?_
  refine wp_seq ?_
  refine wp_seq ?_
  refine wp_region_lit ?_
  refine ql (.int .i64 0) (by kernel_rfl) (by kernel_rfl) ?_
  refine wpList_nil ?_
  refine x_then ?_
  refine wp_block ?_
  refine wp_loop_ghost (fun kq a' w' => ∃ (J3 : Nat → Value) (i : Int) (Ao : Option Addr) (co : Nat) (os : List (Int × Int)) , a' = Fr [.slice A arcs.length c, undef, .slice none 0 0, .slice Ao os.length co, .int .i64 i, .slice (some ⟨g1, 0, none⟩) 0 0, (J3 6), (J3 7), (J3 8), (J3 9), (J3 10), (J3 11), (J3 12), (J3 13), (J3 14), (J3 15), (J3 16), (J3 17), (J3 18), (J3 19), (J3 20), (J3 21), (J3 22), (J3 23), (J3 24), (J3 25), undef] ∧ kq = (arcs.length - (i).toNat) ∧ (0 ≤ i) ∧ (i ≤ arcs.length) ∧ (os = (arcs.take (i).toNat).map swap) ∧ ((os.length : Int) ≤ i) ∧ St W (owns []) w' [row Ao os.length co (cf arcC os) 38 2]) (arcs.length - ((0 : Int)).toNat) ⟨(fun k_ : Nat => List.getD [.slice A arcs.length c, undef, .slice none 0 0, .slice (some ⟨g1, 0, none⟩) 0 0, .int .i64 0, .slice (some ⟨g1, 0, none⟩) 0 0, undef, undef, undef, undef, undef, undef, undef, undef, undef, undef, undef, undef, undef, undef, undef, undef, undef, undef, undef, undef, undef] k_ undef), (0 : Int), some ⟨g1, 0, none⟩, 0, ([] : List (Int × Int)), congrArg Fr (by kernel_rfl), rfl, by omega, by omega, by rw [Int.toNat_zero, List.take_zero]; rfl, by simp, HS⟩ ?_
  clear HS
  intro kq4 a' W5 hrel
  obtain ⟨J3, i, Ao, co, os, rfl, hk, h0, h1, ho, hol, HS⟩ := hrel
  refine wp_seq ?_
  refine wp_seq ?_
  refine wp_region_lit ?_
  refine ql (.int .i64 i) (by kernel_rfl) (by kernel_rfl) ?_
  refine ql (.slice A arcs.length c) (by kernel_rfl) (by kernel_rfl) ?_
  refine ql (.int .i64 (arcs.length : Int)) (by kernel_rfl) (by kernel_rfl) ?_
  by_cases hc6 : i < (arcs.length : Int)
  · skip
    refine ql (.bool true) (by kernel_rfl) (R_bool (p := i < (arcs.length : Int)) (by kernel_rfl) (hc6)) ?_
    refine wpList_nil ?_
    refine x_then ?_
    refine wp_cond_true (by kernel_rfl) ?_
    refine wp_skip ?_
    refine x_then ?_
    refine wp_seq ?_
    refine wp_block ?_
    refine t_start HS (row Ao os.length co (cf arcC os) 38 2).own 15 (by kernel_rfl) rfl ?_
    intro W7 H_ HD_
    clear HD_
    replace HS : St W (owns []) W7 [row Ao os.length co (cf arcC os) 38 2] := H_
    clear H_
    have HV := HS
    have HK := Kpt.refl (row Ao os.length co (cf arcC os) 38 2).own W7
    refine t_q (n := 14) 0 (.slice Ao os.length co) rfl (by kernel_rfl) (by kernel_rfl) (fun _ _ _ h => h) (fun w' hk => (by kernel_rfl)) HK ?_
    refine t_q (n := 13) 1 (.slice A arcs.length c) rfl (by kernel_rfl) (by kernel_rfl) (fun _ _ _ h => h) (fun w' hk => (by kernel_rfl)) HK ?_
    refine t_q (n := 12) 2 (.int .i64 i) rfl (by kernel_rfl) (by kernel_rfl) (fun _ _ _ h => h) (fun w' hk => (by kernel_rfl)) HK ?_
    obtain ⟨ad8, rfl⟩ := Rd.isSome_ hr (by rw [cf_len (z := 2) (fun _ => rfl)]; omega)
    refine t_q (n := 11) 3 (.pointer (some (ad8.add (i.toNat * 2)))) rfl (by kernel_rfl) (by kernel_rfl) (fun _ _ _ h => h) (fun w' hk => (R_indexA (k := .i64) (p := ad8) (n := arcs.length) (c := c) (i := i) (by kernel_rfl) (by kernel_rfl) Try.underlying22 (by kernel_rfl) (by omega) (by omega))) HK ?_
    refine t_q (n := 10) 4 (.pointer (some ((ad8.add (i.toNat * 2)).add 1))) rfl (by kernel_rfl) (by kernel_rfl) (fun _ _ _ h => h) (fun w' hk => (by kernel_rfl)) HK ?_
    refine t_q (n := 9) 5 (.int .i64 ((gx arcs i).2)) rfl (by kernel_rfl) (by kernel_rfl) (fun _ _ _ h => h) (fun w' hk => (R_load (p := (ad8.add (i.toNat * 2)).add 1) (by kernel_rfl) (by kernel_rfl) (by kernel_rfl) (HV.oldK (i := 0) rfl hk (Rd.elem1 (k := 1) (f := arcC) (fun _ => rfl) hr (gx_eq (by omega) (by omega)) rfl)))) HK ?_
    refine t_q (n := 8) 6 (.slice (some ad8) arcs.length c) rfl (by kernel_rfl) (by kernel_rfl) (fun _ _ _ h => h) (fun w' hk => (by kernel_rfl)) HK ?_
    refine t_q (n := 7) 7 (.int .i64 i) rfl (by kernel_rfl) (by kernel_rfl) (fun _ _ _ h => h) (fun w' hk => (by kernel_rfl)) HK ?_
    refine t_q (n := 6) 8 (.pointer (some (ad8.add (i.toNat * 2)))) rfl (by kernel_rfl) (by kernel_rfl) (fun _ _ _ h => h) (fun w' hk => (R_indexA (k := .i64) (p := ad8) (n := arcs.length) (c := c) (i := i) (by kernel_rfl) (by kernel_rfl) Try.underlying22 (by kernel_rfl) (by omega) (by omega))) HK ?_
    refine t_q (n := 5) 9 (.pointer (some (ad8.add (i.toNat * 2)))) rfl (by kernel_rfl) (by kernel_rfl) (fun _ _ _ h => h) (fun w' hk => (by kernel_rfl)) HK ?_
    refine t_q (n := 4) 10 (.int .i64 ((gx arcs i).1)) rfl (by kernel_rfl) (by kernel_rfl) (fun _ _ _ h => h) (fun w' hk => (R_load (p := ad8.add (i.toNat * 2)) (by kernel_rfl) (by kernel_rfl) (by kernel_rfl) (HV.oldK (i := 0) rfl hk (Rd.elem0 (f := arcC) (fun _ => rfl) hr (gx_eq (by omega) (by omega)) rfl)))) HK ?_
    refine t_q (n := 3) 11 (.agg #[.int .i64 ((gx arcs i).2), .int .i64 ((gx arcs i).1)]) rfl (by kernel_rfl) (by kernel_rfl) (fun _ _ _ h => h) (fun w' hk => (by kernel_rfl)) HK ?_
    obtain ⟨g9, W10, hg_, hw_, H_, hk_⟩ := ex_lit HS 1 [.int .i64 ((gx arcs i).2), .int .i64 ((gx arcs i).1)] 38 2 rfl (by decide)
    refine t_e (n := 2) 12 (.slice (some ⟨g9, 0, none⟩) 1 1) rfl (by kernel_rfl) (by kernel_rfl) (by subst hg_; subst hw_; kernel_rfl) (HK.tr hk_) ?_
    replace HK := HK.tr hk_
    clear hk_
    clear hg_ hw_
    replace HS : St W (owns []) W10 [row (some ⟨g9, 0, none⟩) 1 1 (cf arcC ([((gx arcs i).2, (gx arcs i).1)])) 38 2, row Ao os.length co (cf arcC os) 38 2] := H_.cast_ (by kernel_rfl)
    clear H_
    obtain ⟨xs14, xs14_⟩ : ∃ z_ : List (Int × Int), z_ = os ++ ([((gx arcs i).2, (gx arcs i).1)]) := ⟨_, rfl⟩
    have xs14l : xs14.length = os.length + 1 := by rw [xs14_, List.length_append] <;> (try simp only [List.length_cons, List.length_nil]) <;> omega
    obtain ⟨A11, c12, W13, hrun_, H_, hk_⟩ := ex_append (P := Try.prog) (ty := 22) (ps := "ref.go:40") (af := #[{ on := 0, ground := Go.Ground.data }, { on := 12, ground := Go.Ground.data }]) (gd := none) (dst := some 25) (t := 22) (s := (Go.Operand.tmp 12)) (x := (Go.Operand.tmp 24)) HS 1 rfl (Src.of_row HS (i := 0) rfl (cf_one (fun _ => rfl))) [.int .i64 0, .int .i64 0] 16 xs14.length (cf arcC xs14) (by omega) (by rw [xs14_, cf_app]) (by kernel_rfl) (by kernel_rfl) Try.underlying22 (by kernel_rfl) (by kernel_rfl) (by kernel_rfl) (by kernel_rfl) (by decide) (by omega) (by omega)
    refine t_e (n := 1) 13 (.slice A11 xs14.length c12) rfl (by kernel_rfl) (by kernel_rfl) hrun_ (HK.trN hk_) ?_
    replace HK := HK.trN hk_
    clear hk_ hrun_
    replace HS : St W (owns []) W13 [row (some ⟨g9, 0, none⟩) 1 1 (cf arcC ([((gx arcs i).2, (gx arcs i).1)])) 38 2, row A11 xs14.length c12 (cf arcC xs14) 38 2] := H_
    clear H_
    refine t_q (n := 0) 14 (.slice A11 xs14.length c12) rfl (by kernel_rfl) (by kernel_rfl) (fun _ _ _ h => h) (fun w' hk => (by kernel_rfl)) HK ?_
    refine t_done (by kernel_rfl) ?_
    clear HV HK
    refine x_inb ?_
    refine x_then ?_
    refine wp_region_lit ?_
    refine ql (.int .i64 i) (by kernel_rfl) (by kernel_rfl) ?_
    refine ql (.int .i64 (i + 1)) (by kernel_rfl) (R_int (by kernel_rfl) (w64 (by omega))) ?_
    refine ql (.int .i64 (i + 1)) (by kernel_rfl) (by kernel_rfl) ?_
    refine wpList_nil ?_
    replace HS := HS.drop1
    have hst := sw_step h0 (by omega)
    rw [← ho] at hst
    refine x_then ?_
    exact ⟨arcs.length - (i + 1).toNat, by omega, (fun k_ : Nat => List.getD [.slice (some ad8) arcs.length c, undef, .slice none 0 0, .slice A11 xs14.length c12, .int .i64 (i + 1), .slice (some ⟨g1, 0, none⟩) 0 0, .int .i64 i, .slice (some ad8) arcs.length c, .int .i64 (arcs.length : Int), .bool true, .int .i64 i, .int .i64 (i + 1), .slice Ao os.length co, .slice (some ad8) arcs.length c, .int .i64 i, .pointer (some (ad8.add (i.toNat * 2))), .pointer (some ((ad8.add (i.toNat * 2)).add 1)), .int .i64 ((gx arcs i).2), .slice (some ad8) arcs.length c, .int .i64 i, .pointer (some (ad8.add (i.toNat * 2))), .pointer (some (ad8.add (i.toNat * 2))), .int .i64 ((gx arcs i).1), .agg #[.int .i64 ((gx arcs i).2), .int .i64 ((gx arcs i).1)], .slice (some ⟨g9, 0, none⟩) 1 1, .slice A11 xs14.length c12, undef] k_ undef), i + 1, A11, c12, xs14, congrArg Fr (by kernel_rfl), rfl, by omega, by omega, by rw [hst, xs14_], by omega, HS⟩
  · skip
    have hre : os = arcs.map swap := by rw [ho, List.take_of_length_le (by omega)]
    refine ql (.bool false) (by kernel_rfl) (R_nbool (p := i < (arcs.length : Int)) (by kernel_rfl) (hc6)) ?_
    refine wpList_nil ?_
    refine x_then ?_
    refine wp_cond_false (by kernel_rfl) ?_
    refine wp_exit ?_
    refine x_thenE ?_
    refine x_thenE ?_
    refine x_hit ?_
    refine x_then ?_
    refine wp_seq ?_
    refine wp_region_lit ?_
    refine ql (.slice Ao os.length co) (by kernel_rfl) (by kernel_rfl) ?_
    refine ql (.slice Ao os.length co) (by kernel_rfl) (by kernel_rfl) ?_
    refine wpList_nil ?_
    refine x_then ?_
    refine wp_ret ?_
    refine ret_ (.slice Ao os.length co) (by kernel_rfl) ?_
    subst hre
    exact ⟨_, _, rfl, HS⟩

set_option maxRecDepth 100000 in
set_option maxHeartbeats 1000000 in
theorem ref_nodes (A : Option Addr) (c : Nat) (bs : List Int) (W : World) (hr : Rd W A (ci .i64 bs)) (hl : bs.length ≤ 1048576) : Calls Try.prog 27 #[.slice A bs.length c] W fun e W' => ∃ A' c', e = .returned (.slice A' (ons bs.length bs).length c') ∧ St W (owns []) W' [row A' (ons bs.length bs).length c' (ci .i64 (ons bs.length bs)) 3 1] := by
  have HS : St W (owns []) W [] := St.start W _
  refine calls_enter [.slice A bs.length c, undef, undef, undef, undef, undef, undef, undef, undef, undef, undef, undef, undef, undef, undef, undef, undef, undef, undef, undef, undef, undef] Try.func27 rfl (by kernel_rfl) ?_
  refine wp_seq ?_
  refine wp_region_lit ?_
  refine ql (.slice none 0 0) (by kernel_rfl) (by kernel_rfl) ?_
  refine wpList_nil ?_
  refine x_then ?_
  refine wp_seq ?_
  refine wp_region_lit ?_
  refine kl HS 0 [] 3 1 (by kernel_rfl) (by kernel_rfl) rfl (by decide) ?_
  intro g1 W2 H_
  replace HS : St W (owns []) W2 [row (some ⟨g1, 0, none⟩) 0 0 (ci .i64 ([])) 3 1] := H_.cast_ (by kernel_rfl)
  clear H_
  refine ql (.slice (some ⟨g1, 0, none⟩) 0 0) (by kernel_rfl) (by kernel_rfl) ?_
  refine wpList_nil ?_
  refine x_then ?_
  refine wp_seq ?_
  refine wp_seq ?_
  refine wp_region_lit ?_
  refine ql (.int .i64 0) (by kernel_rfl) (by kernel_rfl) ?_
  refine wpList_nil ?_
  refine x_then ?_
  refine wp_block ?_
  refine wp_loop_ghost (fun kq a' w' => ∃ (J3 : Nat → Value) (i : Int) (Ao : Option Addr) (co : Nat) (os : List Int) , a' = Fr [.slice A bs.length c, undef, .slice none 0 0, .slice Ao os.length co, .int .i64 i, .slice (some ⟨g1, 0, none⟩) 0 0, (J3 6), (J3 7), (J3 8), (J3 9), (J3 10), (J3 11), (J3 12), (J3 13), (J3 14), (J3 15), (J3 16), (J3 17), (J3 18), (J3 19), (J3 20), undef] ∧ kq = (bs.length - (i).toNat) ∧ (0 ≤ i) ∧ (i ≤ bs.length) ∧ (os = ons (i).toNat bs) ∧ ((os.length : Int) ≤ i) ∧ St W (owns []) w' [row Ao os.length co (ci .i64 os) 3 1]) (bs.length - ((0 : Int)).toNat) ⟨(fun k_ : Nat => List.getD [.slice A bs.length c, undef, .slice none 0 0, .slice (some ⟨g1, 0, none⟩) 0 0, .int .i64 0, .slice (some ⟨g1, 0, none⟩) 0 0, undef, undef, undef, undef, undef, undef, undef, undef, undef, undef, undef, undef, undef, undef, undef, undef] k_ undef), (0 : Int), some ⟨g1, 0, none⟩, 0, ([] : List Int), congrArg Fr (by kernel_rfl), rfl, by omega, by omega, by unfold ons; rfl, by simp, HS⟩ ?_
  clear HS
  intro kq4 a' W5 hrel
  obtain ⟨J3, i, Ao, co, os, rfl, hk, h0, h1, ho, hol, HS⟩ := hrel
  refine wp_seq ?_
  refine wp_seq ?_
  refine wp_region_lit ?_
  refine ql (.int .i64 i) (by kernel_rfl) (by kernel_rfl) ?_
  refine ql (.slice A bs.length c) (by kernel_rfl) (by kernel_rfl) ?_
  refine ql (.int .i64 (bs.length : Int)) (by kernel_rfl) (by kernel_rfl) ?_
  by_cases hc6 : i < (bs.length : Int)
  · skip
    refine ql (.bool true) (by kernel_rfl) (R_bool (p := i < (bs.length : Int)) (by kernel_rfl) (hc6)) ?_
    refine wpList_nil ?_
    refine x_then ?_
    refine wp_cond_true (by kernel_rfl) ?_
    refine wp_skip ?_
    refine x_then ?_
    refine wp_seq ?_
    refine wp_block ?_
    refine wp_seq ?_
    refine wp_region_lit ?_
    refine ql (.slice A bs.length c) (by kernel_rfl) (by kernel_rfl) ?_
    refine ql (.int .i64 i) (by kernel_rfl) (by kernel_rfl) ?_
    obtain ⟨ad7, rfl⟩ := Rd.isSome_ hr (by rw [ci_len]; omega)
    refine ql (.pointer (some (ad7.add i.toNat))) (by kernel_rfl) (R_indexA1 (k := .i64) (p := ad7) (n := bs.length) (c := c) (i := i) (by kernel_rfl) (by kernel_rfl) Try.underlying28 (by kernel_rfl) (by omega) (by omega)) ?_
    refine ql (.int .i64 (rdI bs i)) (by kernel_rfl) (R_load (p := ad7.add i.toNat) (by kernel_rfl) (by kernel_rfl) (by kernel_rfl) (HS.old0 (hr.at_ (ci_rd (by omega) (by omega))))) ?_
    by_cases hc8 : (rdI bs i) = (1 : Int)
    · skip
      refine ql (.bool true) (by kernel_rfl) (R_beq (b := (rdI bs i == (1 : Int))) (by kernel_rfl) (beq_t (hc8))) ?_
      refine wpList_nil ?_
      refine x_then ?_
      refine wp_cond_true (by kernel_rfl) ?_
      refine wp_region_lit ?_
      refine ql (.slice Ao os.length co) (by kernel_rfl) (by kernel_rfl) ?_
      refine ql (.int .i64 i) (by kernel_rfl) (by kernel_rfl) ?_
      refine kl HS 1 [.int .i64 i] 3 1 (by kernel_rfl) (by kernel_rfl) rfl (by decide) ?_
      intro g9 W10 H_
      replace HS : St W (owns []) W10 [row (some ⟨g9, 0, none⟩) 1 1 (ci .i64 ([i])) 3 1, row Ao os.length co (ci .i64 os) 3 1] := H_.cast_ (by kernel_rfl)
      clear H_
      obtain ⟨xs14, xs14_⟩ : ∃ z_ : List Int, z_ = os ++ ([i]) := ⟨_, rfl⟩
      have xs14l : xs14.length = os.length + 1 := by rw [xs14_, List.length_append] <;> (try simp only [List.length_cons, List.length_nil]) <;> omega
      refine ka1 HS 1 rfl (Src.of_row HS (i := 0) rfl ci_one) [.int .i64 0] 8 xs14.length (ci .i64 xs14) (by omega) (by rw [xs14_, ci_app]) (by kernel_rfl) (by kernel_rfl) (by kernel_rfl) Try.underlying28 (by kernel_rfl) (by kernel_rfl) (by kernel_rfl) (by kernel_rfl) (by decide) (by omega) (by omega) ?_
      intro A11 c12 W13 H_
      replace HS : St W (owns []) W13 [row (some ⟨g9, 0, none⟩) 1 1 (ci .i64 ([i])) 3 1, row A11 xs14.length c12 (ci .i64 xs14) 3 1] := H_
      clear H_
      refine ql (.slice A11 xs14.length c12) (by kernel_rfl) (by kernel_rfl) ?_
      refine wpList_nil ?_
      refine x_inb ?_
      refine x_then ?_
      refine wp_region_lit ?_
      refine ql (.int .i64 i) (by kernel_rfl) (by kernel_rfl) ?_
      refine ql (.int .i64 (i + 1)) (by kernel_rfl) (R_int (by kernel_rfl) (w64 (by omega))) ?_
      refine ql (.int .i64 (i + 1)) (by kernel_rfl) (by kernel_rfl) ?_
      refine wpList_nil ?_
      replace HS := HS.drop1
      have hst := ons_step (bs := bs) h0
      rw [if_pos hc8, ← ho] at hst
      refine x_then ?_
      exact ⟨bs.length - (i + 1).toNat, by omega, (fun k_ : Nat => List.getD [.slice (some ad7) bs.length c, undef, .slice none 0 0, .slice A11 xs14.length c12, .int .i64 (i + 1), .slice (some ⟨g1, 0, none⟩) 0 0, .int .i64 i, .slice (some ad7) bs.length c, .int .i64 (bs.length : Int), .bool true, .int .i64 i, .int .i64 (i + 1), .slice (some ad7) bs.length c, .int .i64 i, .pointer (some (ad7.add i.toNat)), .int .i64 (rdI bs i), .bool true, .slice Ao os.length co, .int .i64 i, .slice (some ⟨g9, 0, none⟩) 1 1, .slice A11 xs14.length c12, undef] k_ undef), i + 1, A11, c12, xs14, congrArg Fr (by kernel_rfl), rfl, by omega, by omega, by rw [hst, xs14_], by omega, HS⟩
    · skip
      refine ql (.bool false) (by kernel_rfl) (R_beq (b := (rdI bs i == (1 : Int))) (by kernel_rfl) (beq_f (hc8))) ?_
      refine wpList_nil ?_
      refine x_then ?_
      refine wp_cond_false (by kernel_rfl) ?_
      refine wp_skip ?_
      refine x_inb ?_
      refine x_then ?_
      refine wp_region_lit ?_
      refine ql (.int .i64 i) (by kernel_rfl) (by kernel_rfl) ?_
      refine ql (.int .i64 (i + 1)) (by kernel_rfl) (R_int (by kernel_rfl) (w64 (by omega))) ?_
      refine ql (.int .i64 (i + 1)) (by kernel_rfl) (by kernel_rfl) ?_
      refine wpList_nil ?_
      have hst := ons_step (bs := bs) h0
      rw [if_neg hc8, ← ho] at hst
      refine x_then ?_
      exact ⟨bs.length - (i + 1).toNat, by omega, (fun k_ : Nat => List.getD [.slice (some ad7) bs.length c, undef, .slice none 0 0, .slice Ao os.length co, .int .i64 (i + 1), .slice (some ⟨g1, 0, none⟩) 0 0, .int .i64 i, .slice (some ad7) bs.length c, .int .i64 (bs.length : Int), .bool true, .int .i64 i, .int .i64 (i + 1), .slice (some ad7) bs.length c, .int .i64 i, .pointer (some (ad7.add i.toNat)), .int .i64 (rdI bs i), .bool false, (J3 17), (J3 18), (J3 19), (J3 20), undef] k_ undef), i + 1, Ao, co, os, congrArg Fr (by kernel_rfl), rfl, by omega, by omega, by rw [hst, List.append_nil], by omega, HS⟩
  · skip
    have hre : os = ons bs.length bs := by rw [ho, show i.toNat = bs.length by omega]
    refine ql (.bool false) (by kernel_rfl) (R_nbool (p := i < (bs.length : Int)) (by kernel_rfl) (hc6)) ?_
    refine wpList_nil ?_
    refine x_then ?_
    refine wp_cond_false (by kernel_rfl) ?_
    refine wp_exit ?_
    refine x_thenE ?_
    refine x_thenE ?_
    refine x_hit ?_
    refine x_then ?_
    refine wp_seq ?_
    refine wp_region_lit ?_
    refine ql (.slice Ao os.length co) (by kernel_rfl) (by kernel_rfl) ?_
    refine ql (.slice Ao os.length co) (by kernel_rfl) (by kernel_rfl) ?_
    refine wpList_nil ?_
    refine x_then ?_
    refine wp_ret ?_
    refine ret_ (.slice Ao os.length co) (by kernel_rfl) ?_
    subst hre
    exact ⟨_, _, rfl, HS⟩

set_option maxRecDepth 100000 in
set_option maxHeartbeats 1000000 in
theorem ref_reach (N : Nat) (A : Option Addr) (c : Nat) (arcs : List (Int × Int)) (W : World) (hr : Rd W A (cf arcC arcs)) (hl : arcs.length ≤ 1048576) (v : Int) (hF : Fine N arcs) (hN : N ≤ 1048576) (h0 : 0 ≤ v) (h1 : v < N) : Calls Try.prog 28 #[.int .i64 (N : Int), .slice A arcs.length c, .int .i64 v] W fun e W' => ∃ A' c' bs, e = .returned (.slice A' N c') ∧ St W (owns []) W' [row A' N c' (ci .i64 bs) 3 1] ∧ RInv N arcs v bs [] := by
  have HS : St W (owns []) W [] := St.start W _
  have hF_ := hF
  refine calls_enter [.int .i64 (N : Int), .slice A arcs.length c, .int .i64 v, undef, undef, undef, undef, undef, undef, undef, undef, undef, undef, undef, undef, undef, undef, undef, undef, undef, undef, undef, undef, undef, undef, undef, undef, undef, undef, undef, undef, undef, undef, undef, undef, undef, undef, undef, undef, undef, undef, undef, undef, undef, undef, undef, undef, undef, undef, undef] Try.func28 rfl (by kernel_rfl) ?_
  refine wp_seq ?_
  refine wp_region_lit ?_
  refine ql (.slice none 0 0) (by kernel_rfl) (by kernel_rfl) ?_
  refine wpList_nil ?_
  refine x_then ?_
  refine wp_seq ?_
  refine wp_region_lit ?_
  refine ql (.int .i64 (N : Int)) (by kernel_rfl) (by kernel_rfl) ?_
  refine km HS (N) [.int .i64 0] 8 (by kernel_rfl) (k_eq (k := .i64) (m := (N : Int)) (by kernel_rfl) (by omega)) (k_eq (k := .i64) (m := (N : Int)) (by kernel_rfl) (by omega)) Try.underlying28 (by kernel_rfl) (by kernel_rfl) (by kernel_rfl) (by decide) (by omega) (by omega) ?_
  intro g1 W2 H_
  replace HS : St W (owns []) W2 [row (some ⟨g1, 0, none⟩) N N (ci .i64 (List.replicate (N) 0)) 3 1] := H_.cast_ (by rw [ci_rep]; rfl)
  clear H_
  have rlg1 : (List.replicate (N) (0 : Int)).length = N := List.length_replicate
  refine ql (.slice (some ⟨g1, 0, none⟩) N N) (by kernel_rfl) (by kernel_rfl) ?_
  refine wpList_nil ?_
  refine x_then ?_
  refine wp_seq ?_
  refine wp_region_lit ?_
  refine ql (.slice (some ⟨g1, 0, none⟩) N N) (by kernel_rfl) (by kernel_rfl) ?_
  refine ql (.int .i64 v) (by kernel_rfl) (by kernel_rfl) ?_
  refine ql (.pointer (some ⟨g1, v.toNat, none⟩)) (by kernel_rfl) (R_index1 (k := .i64) (g := g1) (n := N) (c := N) (i := v) (by kernel_rfl) (by kernel_rfl) Try.underlying28 (by kernel_rfl) (by omega) (by omega)) ?_
  refine kr (v := .int .i64 1) HS 0 rfl (v.toNat) [.int .i64 1] (by kernel_rfl) (by kernel_rfl) (by kernel_rfl) (by kernel_rfl) (by kernel_rfl) (one_ (by kernel_rfl)) (by rw [ci_len]; first | omega | (simp only [List.length_singleton]; omega)) rfl ?_
  intro W3 H_
  obtain ⟨xs4, xs4_⟩ : ∃ z_ : List Int, z_ = (List.replicate (N) 0).set v.toNat 1 := ⟨_, rfl⟩
  replace HS : St W (owns []) W3 [row (some ⟨g1, 0, none⟩) N N (ci .i64 xs4) 3 1] := H_.cast_ (by rw [xs4_, ← ci_set]; rfl)
  clear H_
  have xs4l : xs4.length = N := by rw [xs4_, List.length_set]; first | done | omega
  refine wpList_nil ?_
  refine x_then ?_
  refine wp_seq ?_
  refine wp_seq ?_
  refine wp_region_lit ?_
  refine ql (.bool true) (by kernel_rfl) (by kernel_rfl) ?_
  refine wpList_nil ?_
  refine x_then ?_
  refine wp_block ?_
  have hro := ro_start (arcs := arcs) h0 h1 (bs := xs4) xs4_
  refine wp_loop_ghost (fun kq a' w' => ∃ (J5 : Nat → Value) (m : Bool) (bs : List Int) , a' = Fr [.int .i64 (N : Int), .slice A arcs.length c, .int .i64 v, undef, undef, undef, .slice none 0 0, .slice (some ⟨g1, 0, none⟩) N N, .bool m, (J5 9), .int .i64 (N : Int), .slice (some ⟨g1, 0, none⟩) N N, .slice (some ⟨g1, 0, none⟩) N N, .int .i64 v, .pointer (some ⟨g1, v.toNat, none⟩), (J5 15), (J5 16), (J5 17), (J5 18), (J5 19), (J5 20), (J5 21), (J5 22), (J5 23), (J5 24), (J5 25), (J5 26), (J5 27), (J5 28), (J5 29), (J5 30), (J5 31), (J5 32), (J5 33), (J5 34), (J5 35), (J5 36), (J5 37), (J5 38), (J5 39), (J5 40), (J5 41), (J5 42), (J5 43), (J5 44), (J5 45), (J5 46), (J5 47), (J5 48), undef] ∧ kq = (if m = true then zs bs + 1 else 0) ∧ (RO N arcs v bs) ∧ (m = false → RInv N arcs v bs []) ∧ St W (owns []) w' [row (some ⟨g1, 0, none⟩) N N (ci .i64 bs) 3 1]) (if true = true then zs xs4 + 1 else 0) ⟨(fun k_ : Nat => List.getD [.int .i64 (N : Int), .slice A arcs.length c, .int .i64 v, undef, undef, undef, .slice none 0 0, .slice (some ⟨g1, 0, none⟩) N N, .bool true, undef, .int .i64 (N : Int), .slice (some ⟨g1, 0, none⟩) N N, .slice (some ⟨g1, 0, none⟩) N N, .int .i64 v, .pointer (some ⟨g1, v.toNat, none⟩), undef, undef, undef, undef, undef, undef, undef, undef, undef, undef, undef, undef, undef, undef, undef, undef, undef, undef, undef, undef, undef, undef, undef, undef, undef, undef, undef, undef, undef, undef, undef, undef, undef, undef, undef] k_ undef), true, xs4, congrArg Fr (by kernel_rfl), rfl, hro, (fun h => by cases h), HS⟩ ?_
  clear HS
  intro kq6 a' W7 hrel
  obtain ⟨J5, m, bs, rfl, hk, hR, hQ, HS⟩ := hrel
  have hbl := hR.len
  refine wp_seq ?_
  refine wp_seq ?_
  refine wp_region_lit ?_
  refine ql (.bool m) (by kernel_rfl) (by kernel_rfl) ?_
  refine wpList_nil ?_
  refine x_then ?_
  by_cases hc8 : m = true
  · skip
    refine wp_cond_true (kb_eq (b := m) (by kernel_rfl) hc8) ?_
    refine wp_skip ?_
    refine x_then ?_
    refine wp_block ?_
    refine wp_seq ?_
    refine wp_region_lit ?_
    refine ql (.bool false) (by kernel_rfl) (by kernel_rfl) ?_
    refine wpList_nil ?_
    refine x_then ?_
    refine wp_seq ?_
    refine wp_region_lit ?_
    refine ql (.int .i64 0) (by kernel_rfl) (by kernel_rfl) ?_
    refine wpList_nil ?_
    refine x_then ?_
    refine wp_block ?_
    refine wp_loop_ghost (fun kq a' w' => ∃ (J9 : Nat → Value) (i : Int) (m2 : Bool) (bs2 : List Int) , a' = Fr [.int .i64 (N : Int), .slice A arcs.length c, .int .i64 v, undef, undef, undef, .slice none 0 0, .slice (some ⟨g1, 0, none⟩) N N, .bool m2, .int .i64 i, .int .i64 (N : Int), .slice (some ⟨g1, 0, none⟩) N N, .slice (some ⟨g1, 0, none⟩) N N, .int .i64 v, .pointer (some ⟨g1, v.toNat, none⟩), .bool m, (J9 16), (J9 17), (J9 18), (J9 19), (J9 20), (J9 21), (J9 22), (J9 23), (J9 24), (J9 25), (J9 26), (J9 27), (J9 28), (J9 29), (J9 30), (J9 31), (J9 32), (J9 33), (J9 34), (J9 35), (J9 36), (J9 37), (J9 38), (J9 39), (J9 40), (J9 41), (J9 42), (J9 43), (J9 44), (J9 45), (J9 46), (J9 47), (J9 48), undef] ∧ kq = (arcs.length - (i).toNat) ∧ (0 ≤ i) ∧ (i ≤ arcs.length) ∧ (RX N arcs v bs bs2 m2 (i).toNat) ∧ St W (owns []) w' [row (some ⟨g1, 0, none⟩) N N (ci .i64 bs2) 3 1]) (arcs.length - ((0 : Int)).toNat) ⟨(fun k_ : Nat => List.getD [.int .i64 (N : Int), .slice A arcs.length c, .int .i64 v, undef, undef, undef, .slice none 0 0, .slice (some ⟨g1, 0, none⟩) N N, .bool false, .int .i64 0, .int .i64 (N : Int), .slice (some ⟨g1, 0, none⟩) N N, .slice (some ⟨g1, 0, none⟩) N N, .int .i64 v, .pointer (some ⟨g1, v.toNat, none⟩), .bool m, (J5 16), (J5 17), (J5 18), (J5 19), (J5 20), (J5 21), (J5 22), (J5 23), (J5 24), (J5 25), (J5 26), (J5 27), (J5 28), (J5 29), (J5 30), (J5 31), (J5 32), (J5 33), (J5 34), (J5 35), (J5 36), (J5 37), (J5 38), (J5 39), (J5 40), (J5 41), (J5 42), (J5 43), (J5 44), (J5 45), (J5 46), (J5 47), (J5 48), undef] k_ undef), (0 : Int), false, bs, congrArg Fr (by kernel_rfl), rfl, by omega, by omega, ⟨hR, Nat.le_refl _, (fun h => by cases h), fun _ a ha => by simp at ha⟩, HS⟩ ?_
    clear HS
    intro kq10 a' W11 hrel
    obtain ⟨J9, i, m2, bs2, rfl, hk, i0, i1, hX, HS⟩ := hrel
    have hbl2 := hX.1.len
    refine wp_seq ?_
    refine wp_seq ?_
    refine wp_region_lit ?_
    refine ql (.int .i64 i) (by kernel_rfl) (by kernel_rfl) ?_
    refine ql (.slice A arcs.length c) (by kernel_rfl) (by kernel_rfl) ?_
    refine ql (.int .i64 (arcs.length : Int)) (by kernel_rfl) (by kernel_rfl) ?_
    by_cases hc12 : i < (arcs.length : Int)
    · skip
      have hfa := hF _ (List.mem_of_getElem? (gx_eq (xs := arcs) i0 hc12))
      refine ql (.bool true) (by kernel_rfl) (R_bool (p := i < (arcs.length : Int)) (by kernel_rfl) (hc12)) ?_
      refine wpList_nil ?_
      refine x_then ?_
      refine wp_cond_true (by kernel_rfl) ?_
      refine wp_skip ?_
      refine x_then ?_
      refine wp_seq ?_
      refine wp_block ?_
      refine wp_seq ?_
      refine wp_region_lit ?_
      refine ql (.slice (some ⟨g1, 0, none⟩) N N) (by kernel_rfl) (by kernel_rfl) ?_
      refine ql (.slice A arcs.length c) (by kernel_rfl) (by kernel_rfl) ?_
      refine ql (.int .i64 i) (by kernel_rfl) (by kernel_rfl) ?_
      obtain ⟨ad13, rfl⟩ := Rd.isSome_ hr (by rw [cf_len (z := 2) (fun _ => rfl)]; omega)
      refine ql (.pointer (some (ad13.add (i.toNat * 2)))) (by kernel_rfl) (R_indexA (k := .i64) (p := ad13) (n := arcs.length) (c := c) (i := i) (by kernel_rfl) (by kernel_rfl) Try.underlying22 (by kernel_rfl) (by omega) (by omega)) ?_
      refine ql (.pointer (some (ad13.add (i.toNat * 2)))) (by kernel_rfl) (by kernel_rfl) ?_
      refine ql (.int .i64 ((gx arcs i).1)) (by kernel_rfl) (R_load (p := ad13.add (i.toNat * 2)) (by kernel_rfl) (by kernel_rfl) (by kernel_rfl) (HS.old0 (Rd.elem0 (f := arcC) (fun _ => rfl) hr (gx_eq (by omega) (by omega)) rfl))) ?_
      refine ql (.pointer (some ⟨g1, ((gx arcs i).1).toNat, none⟩)) (by kernel_rfl) (R_index1 (k := .i64) (g := g1) (n := N) (c := N) (i := (gx arcs i).1) (by kernel_rfl) (by kernel_rfl) Try.underlying28 (by kernel_rfl) (by omega) (by omega)) ?_
      refine ql (.int .i64 (rdI bs2 ((gx arcs i).1))) (by kernel_rfl) (R_load (p := ⟨g1, ((gx arcs i).1).toNat, none⟩) (by kernel_rfl) (by kernel_rfl) (by kernel_rfl) (HS.rcell (i := 0) rfl (ci_rd (by omega) (by omega)))) ?_
      by_cases hc14 : (rdI bs2 ((gx arcs i).1)) = (1 : Int)
      · skip
        refine ql (.bool true) (by kernel_rfl) (R_beq (b := (rdI bs2 ((gx arcs i).1) == (1 : Int))) (by kernel_rfl) (beq_t (hc14))) ?_
        refine ql (.bool true) (by kernel_rfl) (by kernel_rfl) ?_
        refine ql (.slice (some ⟨g1, 0, none⟩) N N) (by kernel_rfl) (by kernel_rfl) ?_
        refine ql (.slice (some ad13) arcs.length c) (by kernel_rfl) (by kernel_rfl) ?_
        refine ql (.int .i64 i) (by kernel_rfl) (by kernel_rfl) ?_
        refine ql (.pointer (some (ad13.add (i.toNat * 2)))) (by kernel_rfl) (R_indexA (k := .i64) (p := ad13) (n := arcs.length) (c := c) (i := i) (by kernel_rfl) (by kernel_rfl) Try.underlying22 (by kernel_rfl) (by omega) (by omega)) ?_
        refine ql (.pointer (some ((ad13.add (i.toNat * 2)).add 1))) (by kernel_rfl) (by kernel_rfl) ?_
        refine ql (.int .i64 ((gx arcs i).2)) (by kernel_rfl) (R_load (p := (ad13.add (i.toNat * 2)).add 1) (by kernel_rfl) (by kernel_rfl) (by kernel_rfl) (HS.old0 (Rd.elem1 (k := 1) (f := arcC) (fun _ => rfl) hr (gx_eq (by omega) (by omega)) rfl))) ?_
        refine ql (.pointer (some ⟨g1, ((gx arcs i).2).toNat, none⟩)) (by kernel_rfl) (R_index1 (k := .i64) (g := g1) (n := N) (c := N) (i := (gx arcs i).2) (by kernel_rfl) (by kernel_rfl) Try.underlying28 (by kernel_rfl) (by omega) (by omega)) ?_
        refine ql (.int .i64 (rdI bs2 ((gx arcs i).2))) (by kernel_rfl) (R_load (p := ⟨g1, ((gx arcs i).2).toNat, none⟩) (by kernel_rfl) (by kernel_rfl) (by kernel_rfl) (HS.rcell (i := 0) rfl (ci_rd (by omega) (by omega)))) ?_
        by_cases hc15 : (rdI bs2 ((gx arcs i).2)) = (0 : Int)
        · skip
          refine ql (.bool true) (by kernel_rfl) (R_beq (b := (rdI bs2 ((gx arcs i).2) == (0 : Int))) (by kernel_rfl) (beq_t (hc15))) ?_
          refine ql (.bool true) (by kernel_rfl) (by kernel_rfl) ?_
          refine wpList_nil ?_
          refine x_then ?_
          refine wp_cond_true (by kernel_rfl) ?_
          refine wp_seq ?_
          refine wp_region_lit ?_
          refine ql (.slice (some ⟨g1, 0, none⟩) N N) (by kernel_rfl) (by kernel_rfl) ?_
          refine ql (.slice (some ad13) arcs.length c) (by kernel_rfl) (by kernel_rfl) ?_
          refine ql (.int .i64 i) (by kernel_rfl) (by kernel_rfl) ?_
          refine ql (.pointer (some (ad13.add (i.toNat * 2)))) (by kernel_rfl) (R_indexA (k := .i64) (p := ad13) (n := arcs.length) (c := c) (i := i) (by kernel_rfl) (by kernel_rfl) Try.underlying22 (by kernel_rfl) (by omega) (by omega)) ?_
          refine ql (.pointer (some ((ad13.add (i.toNat * 2)).add 1))) (by kernel_rfl) (by kernel_rfl) ?_
          refine ql (.int .i64 ((gx arcs i).2)) (by kernel_rfl) (R_load (p := (ad13.add (i.toNat * 2)).add 1) (by kernel_rfl) (by kernel_rfl) (by kernel_rfl) (HS.old0 (Rd.elem1 (k := 1) (f := arcC) (fun _ => rfl) hr (gx_eq (by omega) (by omega)) rfl))) ?_
          refine ql (.pointer (some ⟨g1, ((gx arcs i).2).toNat, none⟩)) (by kernel_rfl) (R_index1 (k := .i64) (g := g1) (n := N) (c := N) (i := (gx arcs i).2) (by kernel_rfl) (by kernel_rfl) Try.underlying28 (by kernel_rfl) (by omega) (by omega)) ?_
          refine kr (v := .int .i64 1) HS 0 rfl (((gx arcs i).2).toNat) [.int .i64 1] (by kernel_rfl) (by kernel_rfl) (by kernel_rfl) (by kernel_rfl) (by kernel_rfl) (one_ (by kernel_rfl)) (by rw [ci_len]; first | omega | (simp only [List.length_singleton]; omega)) rfl ?_
          intro W16 H_
          obtain ⟨xs17, xs17_⟩ : ∃ z_ : List Int, z_ = (bs2).set ((gx arcs i).2).toNat 1 := ⟨_, rfl⟩
          replace HS : St W (owns []) W16 [row (some ⟨g1, 0, none⟩) N N (ci .i64 xs17) 3 1] := H_.cast_ (by rw [xs17_, ← ci_set]; rfl)
          clear H_
          have xs17l : xs17.length = N := by rw [xs17_, List.length_set]; first | done | omega
          refine wpList_nil ?_
          refine x_then ?_
          refine wp_region_lit ?_
          refine ql (.bool true) (by kernel_rfl) (by kernel_rfl) ?_
          refine wpList_nil ?_
          refine x_inb ?_
          refine x_then ?_
          refine wp_region_lit ?_
          refine ql (.int .i64 i) (by kernel_rfl) (by kernel_rfl) ?_
          refine ql (.int .i64 (i + 1)) (by kernel_rfl) (R_int (by kernel_rfl) (w64 (by omega))) ?_
          refine ql (.int .i64 (i + 1)) (by kernel_rfl) (by kernel_rfl) ?_
          refine wpList_nil ?_
          have hxx := rx_set hX hF i0 (by omega) hc14 hc15 xs17_
          refine x_then ?_
          exact ⟨arcs.length - (i + 1).toNat, by omega, (fun k_ : Nat => List.getD [.int .i64 (N : Int), .slice (some ad13) arcs.length c, .int .i64 v, undef, undef, undef, .slice none 0 0, .slice (some ⟨g1, 0, none⟩) N N, .bool true, .int .i64 (i + 1), .int .i64 (N : Int), .slice (some ⟨g1, 0, none⟩) N N, .slice (some ⟨g1, 0, none⟩) N N, .int .i64 v, .pointer (some ⟨g1, v.toNat, none⟩), .bool m, .int .i64 i, .slice (some ad13) arcs.length c, .int .i64 (arcs.length : Int), .bool true, .int .i64 i, .int .i64 (i + 1), .slice (some ⟨g1, 0, none⟩) N N, .slice (some ad13) arcs.length c, .int .i64 i, .pointer (some (ad13.add (i.toNat * 2))), .pointer (some (ad13.add (i.toNat * 2))), .int .i64 ((gx arcs i).1), .pointer (some ⟨g1, ((gx arcs i).1).toNat, none⟩), .int .i64 (rdI bs2 ((gx arcs i).1)), .bool true, .bool true, .slice (some ⟨g1, 0, none⟩) N N, .slice (some ad13) arcs.length c, .int .i64 i, .pointer (some (ad13.add (i.toNat * 2))), .pointer (some ((ad13.add (i.toNat * 2)).add 1)), .int .i64 ((gx arcs i).2), .pointer (some ⟨g1, ((gx arcs i).2).toNat, none⟩), .int .i64 (rdI bs2 ((gx arcs i).2)), .bool true, .bool true, .slice (some ⟨g1, 0, none⟩) N N, .slice (some ad13) arcs.length c, .int .i64 i, .pointer (some (ad13.add (i.toNat * 2))), .pointer (some ((ad13.add (i.toNat * 2)).add 1)), .int .i64 ((gx arcs i).2), .pointer (some ⟨g1, ((gx arcs i).2).toNat, none⟩), undef] k_ undef), i + 1, true, xs17, congrArg Fr (by kernel_rfl), rfl, by omega, by omega, hxx, HS⟩
        · skip
          refine ql (.bool false) (by kernel_rfl) (R_beq (b := (rdI bs2 ((gx arcs i).2) == (0 : Int))) (by kernel_rfl) (beq_f (hc15))) ?_
          refine ql (.bool false) (by kernel_rfl) (by kernel_rfl) ?_
          refine wpList_nil ?_
          refine x_then ?_
          refine wp_cond_false (by kernel_rfl) ?_
          refine wp_skip ?_
          refine x_inb ?_
          refine x_then ?_
          refine wp_region_lit ?_
          refine ql (.int .i64 i) (by kernel_rfl) (by kernel_rfl) ?_
          refine ql (.int .i64 (i + 1)) (by kernel_rfl) (R_int (by kernel_rfl) (w64 (by omega))) ?_
          refine ql (.int .i64 (i + 1)) (by kernel_rfl) (by kernel_rfl) ?_
          refine wpList_nil ?_
          have hxx := rx_skip hX hF i0 (by omega) (fun _ => hc15)
          refine x_then ?_
          exact ⟨arcs.length - (i + 1).toNat, by omega, (fun k_ : Nat => List.getD [.int .i64 (N : Int), .slice (some ad13) arcs.length c, .int .i64 v, undef, undef, undef, .slice none 0 0, .slice (some ⟨g1, 0, none⟩) N N, .bool m2, .int .i64 (i + 1), .int .i64 (N : Int), .slice (some ⟨g1, 0, none⟩) N N, .slice (some ⟨g1, 0, none⟩) N N, .int .i64 v, .pointer (some ⟨g1, v.toNat, none⟩), .bool m, .int .i64 i, .slice (some ad13) arcs.length c, .int .i64 (arcs.length : Int), .bool true, .int .i64 i, .int .i64 (i + 1), .slice (some ⟨g1, 0, none⟩) N N, .slice (some ad13) arcs.length c, .int .i64 i, .pointer (some (ad13.add (i.toNat * 2))), .pointer (some (ad13.add (i.toNat * 2))), .int .i64 ((gx arcs i).1), .pointer (some ⟨g1, ((gx arcs i).1).toNat, none⟩), .int .i64 (rdI bs2 ((gx arcs i).1)), .bool true, .bool true, .slice (some ⟨g1, 0, none⟩) N N, .slice (some ad13) arcs.length c, .int .i64 i, .pointer (some (ad13.add (i.toNat * 2))), .pointer (some ((ad13.add (i.toNat * 2)).add 1)), .int .i64 ((gx arcs i).2), .pointer (some ⟨g1, ((gx arcs i).2).toNat, none⟩), .int .i64 (rdI bs2 ((gx arcs i).2)), .bool false, .bool false, (J9 42), (J9 43), (J9 44), (J9 45), (J9 46), (J9 47), (J9 48), undef] k_ undef), i + 1, m2, bs2, congrArg Fr (by kernel_rfl), rfl, by omega, by omega, hxx, HS⟩
      · skip
        refine ql (.bool false) (by kernel_rfl) (R_beq (b := (rdI bs2 ((gx arcs i).1) == (1 : Int))) (by kernel_rfl) (beq_f (hc14))) ?_
        refine ql (.bool false) (by kernel_rfl) (by kernel_rfl) ?_
        refine qln (by kernel_rfl) ?_
        refine qln (by kernel_rfl) ?_
        refine qln (by kernel_rfl) ?_
        refine qln (by kernel_rfl) ?_
        refine qln (by kernel_rfl) ?_
        refine qln (by kernel_rfl) ?_
        refine qln (by kernel_rfl) ?_
        refine qln (by kernel_rfl) ?_
        refine qln (by kernel_rfl) ?_
        refine ql (.bool false) (by kernel_rfl) (by kernel_rfl) ?_
        refine wpList_nil ?_
        refine x_then ?_
        refine wp_cond_false (by kernel_rfl) ?_
        refine wp_skip ?_
        refine x_inb ?_
        refine x_then ?_
        refine wp_region_lit ?_
        refine ql (.int .i64 i) (by kernel_rfl) (by kernel_rfl) ?_
        refine ql (.int .i64 (i + 1)) (by kernel_rfl) (R_int (by kernel_rfl) (w64 (by omega))) ?_
        refine ql (.int .i64 (i + 1)) (by kernel_rfl) (by kernel_rfl) ?_
        refine wpList_nil ?_
        have hxx := rx_skip hX hF i0 (by omega) (fun h => absurd h hc14)
        refine x_then ?_
        exact ⟨arcs.length - (i + 1).toNat, by omega, (fun k_ : Nat => List.getD [.int .i64 (N : Int), .slice (some ad13) arcs.length c, .int .i64 v, undef, undef, undef, .slice none 0 0, .slice (some ⟨g1, 0, none⟩) N N, .bool m2, .int .i64 (i + 1), .int .i64 (N : Int), .slice (some ⟨g1, 0, none⟩) N N, .slice (some ⟨g1, 0, none⟩) N N, .int .i64 v, .pointer (some ⟨g1, v.toNat, none⟩), .bool m, .int .i64 i, .slice (some ad13) arcs.length c, .int .i64 (arcs.length : Int), .bool true, .int .i64 i, .int .i64 (i + 1), .slice (some ⟨g1, 0, none⟩) N N, .slice (some ad13) arcs.length c, .int .i64 i, .pointer (some (ad13.add (i.toNat * 2))), .pointer (some (ad13.add (i.toNat * 2))), .int .i64 ((gx arcs i).1), .pointer (some ⟨g1, ((gx arcs i).1).toNat, none⟩), .int .i64 (rdI bs2 ((gx arcs i).1)), .bool false, .bool false, undef, undef, undef, undef, undef, undef, undef, undef, undef, .bool false, (J9 42), (J9 43), (J9 44), (J9 45), (J9 46), (J9 47), (J9 48), undef] k_ undef), i + 1, m2, bs2, congrArg Fr (by kernel_rfl), rfl, by omega, by omega, hxx, HS⟩
    · skip
      refine ql (.bool false) (by kernel_rfl) (R_nbool (p := i < (arcs.length : Int)) (by kernel_rfl) (hc12)) ?_
      refine wpList_nil ?_
      refine x_then ?_
      refine wp_cond_false (by kernel_rfl) ?_
      refine wp_exit ?_
      refine x_thenE ?_
      refine x_thenE ?_
      refine x_hit ?_
      refine x_inb ?_
      have hMM : (if m2 = true then zs bs2 + 1 else 0) < (if m = true then zs bs + 1 else 0) := rx_lt hX hc8
      have hQ2 : m2 = false → RInv N arcs v bs2 [] := fun h => by subst h; exact rx_end hX (by omega)
      refine x_then ?_
      exact ⟨if m2 = true then zs bs2 + 1 else 0, by omega, (fun k_ : Nat => List.getD [.int .i64 (N : Int), .slice A arcs.length c, .int .i64 v, undef, undef, undef, .slice none 0 0, .slice (some ⟨g1, 0, none⟩) N N, .bool m2, .int .i64 i, .int .i64 (N : Int), .slice (some ⟨g1, 0, none⟩) N N, .slice (some ⟨g1, 0, none⟩) N N, .int .i64 v, .pointer (some ⟨g1, v.toNat, none⟩), .bool m, .int .i64 i, .slice A arcs.length c, .int .i64 (arcs.length : Int), .bool false, (J9 20), (J9 21), (J9 22), (J9 23), (J9 24), (J9 25), (J9 26), (J9 27), (J9 28), (J9 29), (J9 30), (J9 31), (J9 32), (J9 33), (J9 34), (J9 35), (J9 36), (J9 37), (J9 38), (J9 39), (J9 40), (J9 41), (J9 42), (J9 43), (J9 44), (J9 45), (J9 46), (J9 47), (J9 48), undef] k_ undef), m2, bs2, congrArg Fr (by kernel_rfl), rfl, hX.1, hQ2, HS⟩
  · skip
    refine wp_cond_false (kb_eq (b := m) (by kernel_rfl) (Bool.eq_false_iff.2 hc8)) ?_
    refine wp_exit ?_
    refine x_thenE ?_
    refine x_thenE ?_
    refine x_hit ?_
    refine x_then ?_
    refine wp_seq ?_
    refine wp_region_lit ?_
    refine ql (.slice (some ⟨g1, 0, none⟩) N N) (by kernel_rfl) (by kernel_rfl) ?_
    refine ql (.slice (some ⟨g1, 0, none⟩) N N) (by kernel_rfl) (by kernel_rfl) ?_
    refine wpList_nil ?_
    refine x_then ?_
    refine wp_ret ?_
    refine ret_ (.slice (some ⟨g1, 0, none⟩) N N) (by kernel_rfl) ?_
    exact ⟨_, _, bs, rfl, HS, hQ (Bool.eq_false_iff.2 hc8)⟩

set_option maxRecDepth 100000 in
set_option maxHeartbeats 1000000 in
theorem of_calls (n : Int) (A : Option Addr) (c : Nat) (arcs : List (Int × Int)) (W : World) (hr : Rd W A (cf arcC arcs)) (hl : arcs.length ≤ 1048576) : Calls Try.prog 13 #[.int .i64 n, .slice A arcs.length c] W fun e W' => NewP W n arcs e W' := by
  have HS : St W (owns []) W [] := St.start W _
  refine calls_enter [.int .i64 n, .slice A arcs.length c, undef, undef, undef, undef, undef, undef, undef, undef, undef, undef, undef, undef, undef, undef, undef, undef, undef, undef, undef, undef, undef, undef, undef, undef, undef, undef, undef, undef, undef, undef, undef, undef] Try.func13 rfl (by kernel_rfl) ?_
  refine wp_seq ?_
  refine wp_region_lit ?_
  refine ql (.pointer none) (by kernel_rfl) (by kernel_rfl) ?_
  refine ql (.int .i64 0) (by kernel_rfl) (by kernel_rfl) ?_
  refine wpList_nil ?_
  refine x_then ?_
  refine wp_seq ?_
  refine wp_region_lit ?_
  refine kl HS 0 [] 35 2 (by kernel_rfl) (by kernel_rfl) rfl (by decide) ?_
  intro g1 W2 H_
  replace HS : St W (owns []) W2 [row (some ⟨g1, 0, none⟩) 0 0 (cf arcC ([])) 35 2] := H_.cast_ (by kernel_rfl)
  clear H_
  refine ql (.slice (some ⟨g1, 0, none⟩) 0 0) (by kernel_rfl) (by kernel_rfl) ?_
  refine wpList_nil ?_
  refine x_then ?_
  refine wp_seq ?_
  refine wp_seq ?_
  refine wp_region_lit ?_
  refine ql (.int .i64 0) (by kernel_rfl) (by kernel_rfl) ?_
  refine wpList_nil ?_
  refine x_then ?_
  refine wp_block ?_
  refine wp_loop_ghost (fun kq a' w' => ∃ (J3 : Nat → Value) (i : Int) (Ao : Option Addr) (co : Nat) (os : List (Int × Int)) , a' = Fr [.int .i64 n, .slice A arcs.length c, undef, undef, .pointer none, .int .i64 0, .slice Ao os.length co, .int .i64 i, .slice (some ⟨g1, 0, none⟩) 0 0, (J3 9), (J3 10), (J3 11), (J3 12), (J3 13), (J3 14), (J3 15), (J3 16), (J3 17), (J3 18), (J3 19), (J3 20), (J3 21), (J3 22), (J3 23), (J3 24), (J3 25), (J3 26), (J3 27), (J3 28), undef, undef, undef, undef, undef] ∧ kq = (arcs.length - (i).toNat) ∧ (0 ≤ i) ∧ (i ≤ arcs.length) ∧ (os = arcs.take (i).toNat) ∧ ((os.length : Int) ≤ i) ∧ St W (owns []) w' [row Ao os.length co (cf arcC os) 35 2]) (arcs.length - ((0 : Int)).toNat) ⟨(fun k_ : Nat => List.getD [.int .i64 n, .slice A arcs.length c, undef, undef, .pointer none, .int .i64 0, .slice (some ⟨g1, 0, none⟩) 0 0, .int .i64 0, .slice (some ⟨g1, 0, none⟩) 0 0, undef, undef, undef, undef, undef, undef, undef, undef, undef, undef, undef, undef, undef, undef, undef, undef, undef, undef, undef, undef, undef, undef, undef, undef, undef] k_ undef), (0 : Int), some ⟨g1, 0, none⟩, 0, ([] : List (Int × Int)), congrArg Fr (by kernel_rfl), rfl, by omega, by omega, by rw [Int.toNat_zero, List.take_zero], by simp, HS⟩ ?_
  clear HS
  intro kq4 a' W5 hrel
  obtain ⟨J3, i, Ao, co, os, rfl, hk, h0, h1, ho, hol, HS⟩ := hrel
  refine wp_seq ?_
  refine wp_seq ?_
  refine wp_region_lit ?_
  refine ql (.int .i64 i) (by kernel_rfl) (by kernel_rfl) ?_
  refine ql (.slice A arcs.length c) (by kernel_rfl) (by kernel_rfl) ?_
  refine ql (.int .i64 (arcs.length : Int)) (by kernel_rfl) (by kernel_rfl) ?_
  by_cases hc6 : i < (arcs.length : Int)
  · skip
    refine ql (.bool true) (by kernel_rfl) (R_bool (p := i < (arcs.length : Int)) (by kernel_rfl) (hc6)) ?_
    refine wpList_nil ?_
    refine x_then ?_
    refine wp_cond_true (by kernel_rfl) ?_
    refine wp_skip ?_
    refine x_then ?_
    refine wp_seq ?_
    refine wp_block ?_
    refine t_start HS (row Ao os.length co (cf arcC os) 35 2).own 15 (by kernel_rfl) rfl ?_
    intro W7 H_ HD_
    clear HD_
    replace HS : St W (owns []) W7 [row Ao os.length co (cf arcC os) 35 2] := H_
    clear H_
    have HV := HS
    have HK := Kpt.refl (row Ao os.length co (cf arcC os) 35 2).own W7
    refine t_q (n := 14) 0 (.slice Ao os.length co) rfl (by kernel_rfl) (by kernel_rfl) (fun _ _ _ h => h) (fun w' hk => (by kernel_rfl)) HK ?_
    refine t_q (n := 13) 1 (.slice A arcs.length c) rfl (by kernel_rfl) (by kernel_rfl) (fun _ _ _ h => h) (fun w' hk => (by kernel_rfl)) HK ?_
    refine t_q (n := 12) 2 (.int .i64 i) rfl (by kernel_rfl) (by kernel_rfl) (fun _ _ _ h => h) (fun w' hk => (by kernel_rfl)) HK ?_
    obtain ⟨ad8, rfl⟩ := Rd.isSome_ hr (by rw [cf_len (z := 2) (fun _ => rfl)]; omega)
    refine t_q (n := 11) 3 (.pointer (some (ad8.add (i.toNat * 2)))) rfl (by kernel_rfl) (by kernel_rfl) (fun _ _ _ h => h) (fun w' hk => (R_indexA (k := .i64) (p := ad8) (n := arcs.length) (c := c) (i := i) (by kernel_rfl) (by kernel_rfl) Try.underlying22 (by kernel_rfl) (by omega) (by omega))) HK ?_
    refine t_q (n := 10) 4 (.pointer (some (ad8.add (i.toNat * 2)))) rfl (by kernel_rfl) (by kernel_rfl) (fun _ _ _ h => h) (fun w' hk => (by kernel_rfl)) HK ?_
    refine t_q (n := 9) 5 (.int .i64 ((gx arcs i).1)) rfl (by kernel_rfl) (by kernel_rfl) (fun _ _ _ h => h) (fun w' hk => (R_load (p := ad8.add (i.toNat * 2)) (by kernel_rfl) (by kernel_rfl) (by kernel_rfl) (HV.oldK (i := 0) rfl hk (Rd.elem0 (f := arcC) (fun _ => rfl) hr (gx_eq (by omega) (by omega)) rfl)))) HK ?_
    refine t_q (n := 8) 6 (.slice (some ad8) arcs.length c) rfl (by kernel_rfl) (by kernel_rfl) (fun _ _ _ h => h) (fun w' hk => (by kernel_rfl)) HK ?_
    refine t_q (n := 7) 7 (.int .i64 i) rfl (by kernel_rfl) (by kernel_rfl) (fun _ _ _ h => h) (fun w' hk => (by kernel_rfl)) HK ?_
    refine t_q (n := 6) 8 (.pointer (some (ad8.add (i.toNat * 2)))) rfl (by kernel_rfl) (by kernel_rfl) (fun _ _ _ h => h) (fun w' hk => (R_indexA (k := .i64) (p := ad8) (n := arcs.length) (c := c) (i := i) (by kernel_rfl) (by kernel_rfl) Try.underlying22 (by kernel_rfl) (by omega) (by omega))) HK ?_
    refine t_q (n := 5) 9 (.pointer (some ((ad8.add (i.toNat * 2)).add 1))) rfl (by kernel_rfl) (by kernel_rfl) (fun _ _ _ h => h) (fun w' hk => (by kernel_rfl)) HK ?_
    refine t_q (n := 4) 10 (.int .i64 ((gx arcs i).2)) rfl (by kernel_rfl) (by kernel_rfl) (fun _ _ _ h => h) (fun w' hk => (R_load (p := (ad8.add (i.toNat * 2)).add 1) (by kernel_rfl) (by kernel_rfl) (by kernel_rfl) (HV.oldK (i := 0) rfl hk (Rd.elem1 (k := 1) (f := arcC) (fun _ => rfl) hr (gx_eq (by omega) (by omega)) rfl)))) HK ?_
    refine t_q (n := 3) 11 (.agg #[.int .i64 ((gx arcs i).1), .int .i64 ((gx arcs i).2)]) rfl (by kernel_rfl) (by kernel_rfl) (fun _ _ _ h => h) (fun w' hk => (by kernel_rfl)) HK ?_
    obtain ⟨g9, W10, hg_, hw_, H_, hk_⟩ := ex_lit HS 1 [.int .i64 ((gx arcs i).1), .int .i64 ((gx arcs i).2)] 35 2 rfl (by decide)
    refine t_e (n := 2) 12 (.slice (some ⟨g9, 0, none⟩) 1 1) rfl (by kernel_rfl) (by kernel_rfl) (by subst hg_; subst hw_; kernel_rfl) (HK.tr hk_) ?_
    replace HK := HK.tr hk_
    clear hk_
    clear hg_ hw_
    replace HS : St W (owns []) W10 [row (some ⟨g9, 0, none⟩) 1 1 (cf arcC ([((gx arcs i).1, (gx arcs i).2)])) 35 2, row Ao os.length co (cf arcC os) 35 2] := H_.cast_ (by kernel_rfl)
    clear H_
    obtain ⟨xs14, xs14_⟩ : ∃ z_ : List (Int × Int), z_ = os ++ ([((gx arcs i).1, (gx arcs i).2)]) := ⟨_, rfl⟩
    have xs14l : xs14.length = os.length + 1 := by rw [xs14_, List.length_append] <;> (try simp only [List.length_cons, List.length_nil]) <;> omega
    obtain ⟨A11, c12, W13, hrun_, H_, hk_⟩ := ex_append (P := Try.prog) (ty := 65) (ps := "law.go:15") (af := #[{ on := 0, ground := Go.Ground.data }, { on := 12, ground := Go.Ground.data }]) (gd := none) (dst := some 28) (t := 65) (s := (Go.Operand.tmp 15)) (x := (Go.Operand.tmp 27)) HS 1 rfl (Src.of_row HS (i := 0) rfl (cf_one (fun _ => rfl))) [.int .i64 0, .int .i64 0] 16 xs14.length (cf arcC xs14) (by omega) (by rw [xs14_, cf_app]) (by kernel_rfl) (by kernel_rfl) Try.underlying65 (by kernel_rfl) (by kernel_rfl) (by kernel_rfl) (by kernel_rfl) (by decide) (by omega) (by omega)
    refine t_e (n := 1) 13 (.slice A11 xs14.length c12) rfl (by kernel_rfl) (by kernel_rfl) hrun_ (HK.trN hk_) ?_
    replace HK := HK.trN hk_
    clear hk_ hrun_
    replace HS : St W (owns []) W13 [row (some ⟨g9, 0, none⟩) 1 1 (cf arcC ([((gx arcs i).1, (gx arcs i).2)])) 35 2, row A11 xs14.length c12 (cf arcC xs14) 35 2] := H_
    clear H_
    refine t_q (n := 0) 14 (.slice A11 xs14.length c12) rfl (by kernel_rfl) (by kernel_rfl) (fun _ _ _ h => h) (fun w' hk => (by kernel_rfl)) HK ?_
    refine t_done (by kernel_rfl) ?_
    clear HV HK
    refine x_inb ?_
    refine x_then ?_
    refine wp_region_lit ?_
    refine ql (.int .i64 i) (by kernel_rfl) (by kernel_rfl) ?_
    refine ql (.int .i64 (i + 1)) (by kernel_rfl) (R_int (by kernel_rfl) (w64 (by omega))) ?_
    refine ql (.int .i64 (i + 1)) (by kernel_rfl) (by kernel_rfl) ?_
    refine wpList_nil ?_
    replace HS := HS.drop1
    have hst := id_step h0 (by omega)
    rw [← ho] at hst
    refine x_then ?_
    exact ⟨arcs.length - (i + 1).toNat, by omega, (fun k_ : Nat => List.getD [.int .i64 n, .slice (some ad8) arcs.length c, undef, undef, .pointer none, .int .i64 0, .slice A11 xs14.length c12, .int .i64 (i + 1), .slice (some ⟨g1, 0, none⟩) 0 0, .int .i64 i, .slice (some ad8) arcs.length c, .int .i64 (arcs.length : Int), .bool true, .int .i64 i, .int .i64 (i + 1), .slice Ao os.length co, .slice (some ad8) arcs.length c, .int .i64 i, .pointer (some (ad8.add (i.toNat * 2))), .pointer (some (ad8.add (i.toNat * 2))), .int .i64 ((gx arcs i).1), .slice (some ad8) arcs.length c, .int .i64 i, .pointer (some (ad8.add (i.toNat * 2))), .pointer (some ((ad8.add (i.toNat * 2)).add 1)), .int .i64 ((gx arcs i).2), .agg #[.int .i64 ((gx arcs i).1), .int .i64 ((gx arcs i).2)], .slice (some ⟨g9, 0, none⟩) 1 1, .slice A11 xs14.length c12, undef, undef, undef, undef, undef] k_ undef), i + 1, A11, c12, xs14, congrArg Fr (by kernel_rfl), rfl, by omega, by omega, by rw [hst, xs14_], by omega, HS⟩
  · skip
    have hre : arcs = os := by rw [ho, List.take_of_length_le (by omega)]
    refine ql (.bool false) (by kernel_rfl) (R_nbool (p := i < (arcs.length : Int)) (by kernel_rfl) (hc6)) ?_
    refine wpList_nil ?_
    refine x_then ?_
    refine wp_cond_false (by kernel_rfl) ?_
    refine wp_exit ?_
    refine x_thenE ?_
    refine x_thenE ?_
    refine x_hit ?_
    refine x_then ?_
    refine wp_seq ?_
    refine wp_region_lit ?_
    refine ql (.int .i64 n) (by kernel_rfl) (by kernel_rfl) ?_
    refine ql (.slice Ao os.length co) (by kernel_rfl) (by kernel_rfl) ?_
    refine qc (f := 49) (args := #[.int .i64 n, .slice Ao os.length co]) (by kernel_rfl) (R_call #[.int .i64 n, .slice Ao os.length co] Try.func49 (by kernel_rfl) (by kernel_rfl) (by kernel_rfl)) ?_
    refine (new_calls n _ _ os _ (Rd.row HS (i := 0) rfl) (by omega)).mono ?_
    rintro e W15 HNP
    subst hre
    rcases HNP with ⟨hc, g, N, hn, rfl, H_, hG⟩ | ⟨hc, rfl, H_⟩
    · refine ⟨_, rfl, ?_⟩
      replace HS : St W (owns []) W15 [row Ao arcs.length co (cf arcC arcs) 35 2] := HS.join (F := []) (G := []) H_
      clear H_
      refine ql (.pointer (some ⟨g, 0, none⟩)) (by kernel_rfl) (by kernel_rfl) ?_
      refine ql (.int .i64 0) (by kernel_rfl) (by kernel_rfl) ?_
      refine ql (.pointer (some ⟨g, 0, none⟩)) (by kernel_rfl) (by kernel_rfl) ?_
      refine ql (.int .i64 0) (by kernel_rfl) (by kernel_rfl) ?_
      refine wpList_nil ?_
      refine x_then ?_
      refine wp_ret ?_
      refine ret_ (.tuple #[.pointer (some ⟨g, 0, none⟩), .int .i64 0]) (by kernel_rfl) ?_
      replace HS := HS.drop1
      exact .inl ⟨hc, g, N, hn, rfl, HS, hG⟩
    · refine ⟨_, rfl, ?_⟩
      replace HS : St W (owns []) W15 [row Ao arcs.length co (cf arcC arcs) 35 2] := HS.join (F := []) (G := []) H_
      clear H_
      refine ql (.pointer none) (by kernel_rfl) (by kernel_rfl) ?_
      refine ql (.int .i64 (chk n arcs)) (by kernel_rfl) (by kernel_rfl) ?_
      refine ql (.pointer none) (by kernel_rfl) (by kernel_rfl) ?_
      refine ql (.int .i64 (chk n arcs)) (by kernel_rfl) (by kernel_rfl) ?_
      refine wpList_nil ?_
      refine x_then ?_
      refine wp_ret ?_
      refine ret_ (.tuple #[.pointer none, .int .i64 (chk n arcs)]) (by kernel_rfl) ?_
      replace HS := HS.drop1
      exact .inr ⟨hc, rfl, HS⟩

end Go.Proofs.Ythfpdpjccnnlhaa.GBfsLayers
