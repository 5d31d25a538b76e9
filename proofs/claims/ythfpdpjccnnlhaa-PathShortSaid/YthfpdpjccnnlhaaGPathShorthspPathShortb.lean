/- Written for this claim by gp.py, a program of this session's, over the kit's print. Lean checks it. -/
import Derived.Test.YthfpdpjccnnlhaaGPathShortx0
import Derived.Test.YthfpdpjccnnlhaaGPathShorthx
import Derived.Test.YthfpdpjccnnlhaaGPathShorthspPathShorta
import Derived.WalkKit
import Derived.StillTailTactics
import Derived.Deep.LoopGhost
import Derived.KernelRfl
import Derived.Deep.OwnRows
import Derived.Laws.OwnMore
import Derived.Laws.MakeOwn
import Derived.Maps.AppendAt
import Derived.OrdersHeld
namespace Go.Proofs.Ythfpdpjccnnlhaa.GPathShort
open Go.RowKit Go.Proofs.YthfpdpjccnnlhaaW.PrintWords Go.Proofs.YthfpdpjccnnlhaaW.PrintLast Go.Proofs.YthfpdpjccnnlhaaW.PrintMore
attribute [local go_sem] max2_int min2_int max_two min_two max_three min_three max_four min_four   -- for this text's walks alone
set_option linter.unusedVariables false
set_option linter.unusedSimpArgs false

--import Derived.WalkKit
--import Derived.StillTailTactics
--import Derived.Deep.LoopGhost
--import Derived.KernelRfl
--import Derived.Deep.OwnRows
--import Derived.Laws.OwnMore
--import Derived.Laws.MakeOwn
--import Derived.Maps.AppendAt
--import Derived.OrdersHeld
attribute [local irreducible] wpStill wpList Code.wp TA

theorem ints_step {xs ys zs : List Int} {i : Int} (hy : ys = xs.take i.toNat ++ List.replicate (xs.length - i.toNat) 0) (hz : zs = ys.set i.toNat (rdI xs i)) (h0 : 0 ≤ i) (h1 : i < xs.length) : zs = xs.take (i + 1).toNat ++ List.replicate (xs.length - (i + 1).toNat) 0 := by
  have e : (i + 1).toNat = i.toNat + 1 := by omega
  have hi : i.toNat < xs.length := by omega
  rw [hz, hy, e, List.take_succ_eq_append_getElem hi, List.set_append_right _ _ (by simp; omega)]
  have e2 : xs.length - i.toNat = (xs.length - (i.toNat + 1)) + 1 := by omega
  rw [e2, List.replicate_succ]
  have e3 : i.toNat - (List.take i.toNat xs).length = 0 := by simp; omega
  rw [e3, List.set_cons_zero, List.append_assoc]
  simp [rdI, hi]

set_option maxRecDepth 100000 in
set_option maxHeartbeats 1000000 in
theorem ints_calls (A : Option Addr) (c : Nat) (xs : List Int) (W : World) (hr : Rd W A (ci .i32 xs)) (hx : ∀ x ∈ xs, -2147483648 ≤ x ∧ x ≤ 2147483647) (hl : xs.length ≤ 1099511627776) :
    Calls Try.prog 50 #[.slice A xs.length c] W fun e W' => ∃ A' c', e = .returned (.slice A' xs.length c') ∧ St W (owns []) W' [row A' xs.length c' (ci .i64 xs) 3 1] := by
  have HS : St W (owns []) W [] := St.start W _
  refine calls_enter [.slice A xs.length c, undef, undef, undef, undef, undef, undef, undef, undef, undef, undef, undef, undef, undef, undef, undef, undef, undef, undef, undef, undef, undef, undef] Try.func50 rfl (by kernel_rfl) ?_
  refine wp_seq ?_
  refine wp_region_lit ?_
  refine ql (.slice none 0 0) (by kernel_rfl) (by kernel_rfl) ?_
  refine wpList_nil ?_
  refine x_then ?_
  refine wp_seq ?_
  refine wp_region_lit ?_
  refine ql (.slice A xs.length c) (by kernel_rfl) (by kernel_rfl) ?_
  refine ql (.int .i64 (xs.length : Int)) (by kernel_rfl) (by kernel_rfl) ?_
  refine km HS (xs.length) [.int .i64 0] 8 (by kernel_rfl) (k_eq (k := .i64) (m := (xs.length : Int)) (by kernel_rfl) (by omega)) (k_eq (k := .i64) (m := (xs.length : Int)) (by kernel_rfl) (by omega)) Try.underlying28 (by kernel_rfl) (by kernel_rfl) (by kernel_rfl) (by decide) (by omega) (by omega) ?_
  intro g1 W2 H_
  replace HS : St W (owns []) W2 [row (some ⟨g1, 0, none⟩) xs.length xs.length (ci .i64 (List.replicate (xs.length) 0)) 3 1] := H_.cast_ (by rw [ci_rep]; rfl)
  clear H_
  have rlg1 : (List.replicate (xs.length) (0 : Int)).length = xs.length := List.length_replicate
  refine ql (.slice (some ⟨g1, 0, none⟩) xs.length xs.length) (by kernel_rfl) (by kernel_rfl) ?_
  refine wpList_nil ?_
  refine x_then ?_
  refine wp_seq ?_
  refine wp_seq ?_
  refine wp_region_lit ?_
  refine ql (.slice A xs.length c) (by kernel_rfl) (by kernel_rfl) ?_
  refine ql (.int .i64 (xs.length : Int)) (by kernel_rfl) (by kernel_rfl) ?_
  refine ql (.int .i64 0) (by kernel_rfl) (by kernel_rfl) ?_
  refine wpList_nil ?_
  refine x_then ?_
  refine wp_block ?_
  refine wp_loop_ghost (fun kq a' w' => ∃ (J3 : Nat → Value) (i : Int) (ys : List Int) , a' = Fr [.slice A xs.length c, undef, .slice none 0 0, .slice (some ⟨g1, 0, none⟩) xs.length xs.length, (J3 4), (J3 5), .slice A xs.length c, .int .i64 (xs.length : Int), .slice (some ⟨g1, 0, none⟩) xs.length xs.length, .slice A xs.length c, .int .i64 (xs.length : Int), .int .i64 i, (J3 12), (J3 13), (J3 14), (J3 15), (J3 16), (J3 17), (J3 18), (J3 19), (J3 20), (J3 21), undef] ∧ kq = (xs.length - (i).toNat) ∧ (0 ≤ i) ∧ (i ≤ xs.length) ∧ (ys = xs.take (i).toNat ++ List.replicate (xs.length - (i).toNat) 0) ∧ (ys.length = xs.length) ∧ St W (owns []) w' [row (some ⟨g1, 0, none⟩) xs.length xs.length (ci .i64 ys) 3 1]) (xs.length - ((0 : Int)).toNat) ⟨(fun k_ : Nat => List.getD [.slice A xs.length c, undef, .slice none 0 0, .slice (some ⟨g1, 0, none⟩) xs.length xs.length, undef, undef, .slice A xs.length c, .int .i64 (xs.length : Int), .slice (some ⟨g1, 0, none⟩) xs.length xs.length, .slice A xs.length c, .int .i64 (xs.length : Int), .int .i64 0, undef, undef, undef, undef, undef, undef, undef, undef, undef, undef, undef] k_ undef), (0 : Int), List.replicate xs.length 0, congrArg Fr (by kernel_rfl), rfl, by omega, by omega, by simp, by simp, HS⟩ ?_
  clear HS
  intro kq4 a' W5 hrel
  obtain ⟨J3, i, ys, rfl, hk, h0, h1, hy, hyl, HS⟩ := hrel
  refine wp_seq ?_
  refine wp_region_lit ?_
  by_cases hc6 : i < (xs.length : Int)
  · skip
    have hxb := hx _ (List.mem_of_getElem? (rdI_eq (xs := xs) h0 hc6))
    refine ql (.bool true) (by kernel_rfl) (R_bool (p := i < (xs.length : Int)) (by kernel_rfl) (hc6)) ?_
    refine wpList_nil ?_
    refine x_then ?_
    refine wp_seq ?_
    refine wp_cond_true (by kernel_rfl) ?_
    refine wp_skip ?_
    refine x_then ?_
    refine wp_seq ?_
    refine wp_block ?_
    refine wp_seq ?_
    refine wp_region_lit ?_
    refine ql (.int .i64 i) (by kernel_rfl) (by kernel_rfl) ?_
    obtain ⟨ad7, rfl⟩ := Rd.isSome_ hr (by rw [ci_len]; omega)
    refine ql (.pointer (some (ad7.add i.toNat))) (by kernel_rfl) (R_indexA1 (k := .i64) (p := ad7) (n := xs.length) (c := c) (i := i) (by kernel_rfl) (by kernel_rfl) Try.underlying67 (by kernel_rfl) (by omega) (by omega)) ?_
    refine ql (.int .i32 (rdI xs i)) (by kernel_rfl) (R_load (p := ad7.add i.toNat) (by kernel_rfl) (by kernel_rfl) (by kernel_rfl) (HS.old0 (hr.at_ (ci_rd (by omega) (by omega))))) ?_
    refine ql (.int .i64 i) (by kernel_rfl) (by kernel_rfl) ?_
    refine ql (.int .i32 (rdI xs i)) (by kernel_rfl) (by kernel_rfl) ?_
    refine wpList_nil ?_
    refine x_then ?_
    refine wp_region_lit ?_
    refine ql (.slice (some ⟨g1, 0, none⟩) xs.length xs.length) (by kernel_rfl) (by kernel_rfl) ?_
    refine ql (.int .i64 i) (by kernel_rfl) (by kernel_rfl) ?_
    refine ql (.int .i32 (rdI xs i)) (by kernel_rfl) (by kernel_rfl) ?_
    refine ql (.int .i64 (rdI xs i)) (by kernel_rfl) (R_int (by kernel_rfl) (w64 (by omega))) ?_
    refine ql (.pointer (some ⟨g1, i.toNat, none⟩)) (by kernel_rfl) (R_index1 (k := .i64) (g := g1) (n := xs.length) (c := xs.length) (i := i) (by kernel_rfl) (by kernel_rfl) Try.underlying28 (by kernel_rfl) (by omega) (by omega)) ?_
    refine kr (v := .int .i64 (rdI xs i)) HS 0 rfl (i.toNat) [.int .i64 (rdI xs i)] (by kernel_rfl) (by kernel_rfl) (by kernel_rfl) (by kernel_rfl) (by kernel_rfl) (one_ (by kernel_rfl)) (by rw [ci_len]; first | omega | (simp only [List.length_singleton]; omega)) rfl ?_
    intro W8 H_
    obtain ⟨xs9, xs9_⟩ : ∃ z_ : List Int, z_ = (ys).set i.toNat (rdI xs i) := ⟨_, rfl⟩
    replace HS : St W (owns []) W8 [row (some ⟨g1, 0, none⟩) xs.length xs.length (ci .i64 xs9) 3 1] := H_.cast_ (by rw [xs9_, ← ci_set]; rfl)
    clear H_
    have xs9l : xs9.length = xs.length := by rw [xs9_, List.length_set]; first | done | omega
    refine wpList_nil ?_
    refine x_inb ?_
    refine x_then ?_
    refine wp_region_lit ?_
    refine ql (.int .i64 (i + 1)) (by kernel_rfl) (R_int (by kernel_rfl) (w64 (by omega))) ?_
    refine ql (.int .i64 (i + 1)) (by kernel_rfl) (by kernel_rfl) ?_
    refine wpList_nil ?_
    refine x_then ?_
    exact ⟨xs.length - (i + 1).toNat, by omega, (fun k_ : Nat => List.getD [.slice (some ad7) xs.length c, undef, .slice none 0 0, .slice (some ⟨g1, 0, none⟩) xs.length xs.length, .int .i64 i, .int .i32 (rdI xs i), .slice (some ad7) xs.length c, .int .i64 (xs.length : Int), .slice (some ⟨g1, 0, none⟩) xs.length xs.length, .slice (some ad7) xs.length c, .int .i64 (xs.length : Int), .int .i64 (i + 1), .bool true, .int .i64 i, .pointer (some (ad7.add i.toNat)), .int .i32 (rdI xs i), .slice (some ⟨g1, 0, none⟩) xs.length xs.length, .int .i64 i, .int .i32 (rdI xs i), .int .i64 (rdI xs i), .pointer (some ⟨g1, i.toNat, none⟩), .int .i64 (i + 1), undef] k_ undef), i + 1, xs9, congrArg Fr (by kernel_rfl), rfl, by omega, by omega, ints_step hy xs9_ (by omega) (by omega), xs9l, HS⟩
  · skip
    have hys : xs = ys := by rw [hy, List.take_of_length_le (by omega), show xs.length - i.toNat = 0 by omega]; simp
    subst hys
    refine ql (.bool false) (by kernel_rfl) (R_nbool (p := i < (xs.length : Int)) (by kernel_rfl) (hc6)) ?_
    refine wpList_nil ?_
    refine x_then ?_
    refine wp_seq ?_
    refine wp_cond_false (by kernel_rfl) ?_
    refine wp_exit ?_
    refine x_thenE ?_
    refine x_thenE ?_
    refine x_hit ?_
    refine x_then ?_
    refine wp_seq ?_
    refine wp_region_lit ?_
    refine ql (.slice (some ⟨g1, 0, none⟩) xs.length xs.length) (by kernel_rfl) (by kernel_rfl) ?_
    refine ql (.slice (some ⟨g1, 0, none⟩) xs.length xs.length) (by kernel_rfl) (by kernel_rfl) ?_
    refine wpList_nil ?_
    refine x_then ?_
    refine wp_ret ?_
    refine ret_ (.slice (some ⟨g1, 0, none⟩) xs.length xs.length) (by kernel_rfl) ?_
    exact ⟨_, _, rfl, HS⟩

set_option maxRecDepth 100000 in
set_option maxHeartbeats 1000000 in
theorem node_true (x y : Int) (gb : Nat) (W : World) (hc : W.cell? ⟨gb, 0, none⟩ = some (.bool true)) : Calls Try.prog 63 #[.agg #[.int .i64 x, .int .i64 y], .pointer (some ⟨gb, 0, none⟩)] W fun e W' => e = .returned (.int .i64 y) ∧ St W (owns []) W' [] := by
  have HS : St W (owns []) W [] := St.start W _
  refine calls_enter [.agg #[.int .i64 x, .int .i64 y], .pointer (some ⟨gb, 0, none⟩), undef, undef, undef, undef, undef, undef, undef] Try.func63 rfl (by kernel_rfl) ?_
  refine wp_seq ?_
  refine wp_region_lit ?_
  refine kb HS [.int .i64 x, .int .i64 y] 35 (fun g => .pointer (some ⟨g, 0, none⟩)) (by kernel_rfl) (by kernel_rfl) ?_
  intro g1 W2 H_
  replace HS : St W (owns []) W2 [blk g1 [.int .i64 x, .int .i64 y] 35] := H_
  clear H_
  refine ql (.int .i64 0) (by kernel_rfl) (by kernel_rfl) ?_
  refine wpList_nil ?_
  refine x_then ?_
  refine wp_seq ?_
  refine wp_seq ?_
  refine wp_region_lit ?_
  refine ql (.bool true) (by kernel_rfl) (R_load (p := ⟨gb, 0, none⟩) (by kernel_rfl) (by kernel_rfl) (by kernel_rfl) (HS.old0 hc)) ?_
  refine wpList_nil ?_
  refine x_then ?_
  refine wp_cond_true (by kernel_rfl) ?_
  refine wp_seq ?_
  refine wp_region_lit ?_
  refine ql (.pointer (some ⟨g1, 1, none⟩)) (by kernel_rfl) (by kernel_rfl) ?_
  refine ql (.int .i64 y) (by kernel_rfl) (R_load (p := ⟨g1, 1, none⟩) (by kernel_rfl) (by kernel_rfl) (by kernel_rfl) (HS.cell (i := 0) (j := 1) rfl rfl)) ?_
  refine ql (.int .i64 y) (by kernel_rfl) (by kernel_rfl) ?_
  refine wpList_nil ?_
  refine x_then ?_
  refine wp_ret ?_
  refine x_thenR ?_
  refine ret_ (.int .i64 y) (by kernel_rfl) ?_
  exact ⟨rfl, HS.tail (F := [blk g1 [.int .i64 x, .int .i64 y] 35])⟩

set_option maxRecDepth 100000 in
set_option maxHeartbeats 1000000 in
theorem node_false (x y : Int) (gb : Nat) (W : World) (hc : W.cell? ⟨gb, 0, none⟩ = some (.bool false)) : Calls Try.prog 63 #[.agg #[.int .i64 x, .int .i64 y], .pointer (some ⟨gb, 0, none⟩)] W fun e W' => e = .returned (.int .i64 x) ∧ St W (owns []) W' [] := by
  have HS : St W (owns []) W [] := St.start W _
  refine calls_enter [.agg #[.int .i64 x, .int .i64 y], .pointer (some ⟨gb, 0, none⟩), undef, undef, undef, undef, undef, undef, undef] Try.func63 rfl (by kernel_rfl) ?_
  refine wp_seq ?_
  refine wp_region_lit ?_
  refine kb HS [.int .i64 x, .int .i64 y] 35 (fun g => .pointer (some ⟨g, 0, none⟩)) (by kernel_rfl) (by kernel_rfl) ?_
  intro g1 W2 H_
  replace HS : St W (owns []) W2 [blk g1 [.int .i64 x, .int .i64 y] 35] := H_
  clear H_
  refine ql (.int .i64 0) (by kernel_rfl) (by kernel_rfl) ?_
  refine wpList_nil ?_
  refine x_then ?_
  refine wp_seq ?_
  refine wp_seq ?_
  refine wp_region_lit ?_
  refine ql (.bool false) (by kernel_rfl) (R_load (p := ⟨gb, 0, none⟩) (by kernel_rfl) (by kernel_rfl) (by kernel_rfl) (HS.old0 hc)) ?_
  refine wpList_nil ?_
  refine x_then ?_
  refine wp_cond_false (by kernel_rfl) ?_
  refine wp_skip ?_
  refine x_then ?_
  refine wp_seq ?_
  refine wp_region_lit ?_
  refine ql (.pointer (some ⟨g1, 0, none⟩)) (by kernel_rfl) (by kernel_rfl) ?_
  refine ql (.int .i64 x) (by kernel_rfl) (R_load (p := ⟨g1, 0, none⟩) (by kernel_rfl) (by kernel_rfl) (by kernel_rfl) (HS.cell (i := 0) (j := 0) rfl rfl)) ?_
  refine ql (.int .i64 x) (by kernel_rfl) (by kernel_rfl) ?_
  refine wpList_nil ?_
  refine x_then ?_
  refine wp_ret ?_
  refine ret_ (.int .i64 x) (by kernel_rfl) ?_
  exact ⟨rfl, HS.tail (F := [blk g1 [.int .i64 x, .int .i64 y] 35])⟩

theorem node_calls (b : Bool) (x y : Int) (gb : Nat) (W : World) (hc : W.cell? ⟨gb, 0, none⟩ = some (.bool b)) : Calls Try.prog 63 #[.agg #[.int .i64 x, .int .i64 y], .pointer (some ⟨gb, 0, none⟩)] W fun e W' => e = .returned (.int .i64 (key b (x, y))) ∧ St W (owns []) W' [] := by
  cases b
  · rw [show key false (x, y) = x from by unfold key; rfl]; exact node_false x y gb W hc
  · rw [show key true (x, y) = y from by unfold key; rfl]; exact node_true x y gb W hc

set_option maxRecDepth 100000 in
set_option maxHeartbeats 1000000 in
theorem lay_calls (N : Nat) (A : Option Addr) (c : Nat) (arcs : List (Int × Int)) (b : Bool) (W : World) (hr : Rd W A (cf arcC arcs)) (hF : Fine N arcs) (hN : N ≤ 1048576) (hm : arcs.length ≤ 67108864) :
    Calls Try.prog 61 #[.int .i64 (N : Int), .slice A arcs.length c, .bool b] W fun e W' => ∃ A1 c1 A2 c2 os, e = .returned (.tuple #[.slice A1 arcs.length c1, .slice A2 (N + 1) c2]) ∧ St W (owns []) W' [row A1 arcs.length c1 (ci .i32 os) 21 1, row A2 (N + 1) c2 (ci .i32 (bl N (keys b arcs))) 21 1] ∧ Laid (keys b arcs) arcs.length (keys b arcs).length os := by
  have HS : St W (owns []) W [] := St.start W _
  refine calls_enter ((.int .i64 (N : Int)) :: (.slice A arcs.length c) :: (.bool b) :: undef :: undef :: undef :: undef :: undef :: undef :: undef :: undef :: undef :: undef :: undef :: undef :: undef :: undef :: undef :: undef :: undef :: undef :: undef :: undef :: undef :: undef :: undef :: undef :: undef :: undef :: undef :: undef :: undef :: undef :: undef :: undef :: undef :: undef :: undef :: undef :: undef :: undef :: undef :: undef :: undef :: undef :: undef :: undef :: undef :: undef :: undef :: undef :: undef :: undef :: undef :: undef :: undef :: undef :: undef :: undef :: undef :: undef :: undef :: undef :: undef :: undef :: undef :: undef :: undef :: undef :: undef :: undef :: undef :: undef :: undef :: undef :: undef :: undef :: undef :: undef :: undef :: undef :: undef :: undef :: undef :: undef :: undef :: []) Try.func61 rfl (by kernel_rfl) ?_
  refine wp_seq ?_
  refine wp_region_lit ?_
  refine kb HS [.bool b] 4 (fun g => .pointer (some ⟨g, 0, none⟩)) (by kernel_rfl) (by kernel_rfl) ?_
  intro g1 W2 H_
  replace HS : St W (owns []) W2 [blk g1 [.bool b] 4] := H_
  clear H_
  refine ql (.slice none 0 0) (by kernel_rfl) (by kernel_rfl) ?_
  refine ql (.slice none 0 0) (by kernel_rfl) (by kernel_rfl) ?_
  refine wpList_nil ?_
  refine x_then ?_
  refine wp_seq ?_
  refine wp_region_lit ?_
  refine ql (.func (.func 63) #[] #[.pointer (some ⟨g1, 0, none⟩)]) (by kernel_rfl) (by kernel_rfl) ?_
  refine ql (.func (.func 63) #[] #[.pointer (some ⟨g1, 0, none⟩)]) (by kernel_rfl) (by kernel_rfl) ?_
  refine wpList_nil ?_
  refine x_then ?_
  refine wp_seq ?_
  refine wp_region_lit ?_
  refine ql (.int .i64 (N : Int)) (by kernel_rfl) (by kernel_rfl) ?_
  refine ql (.int .i64 ((N : Int) + 1)) (by kernel_rfl) (R_int (by kernel_rfl) (w64 (by omega))) ?_
  refine km HS (N + 1) [.int .i32 0] 4 (by kernel_rfl) (k_eq (k := .i64) (m := (N : Int) + 1) (by kernel_rfl) (by omega)) (k_eq (k := .i64) (m := (N : Int) + 1) (by kernel_rfl) (by omega)) Try.underlying67 (by kernel_rfl) (by kernel_rfl) (by kernel_rfl) (by decide) (by omega) (by omega) ?_
  intro g3 W4 H_
  replace HS : St W (owns []) W4 [row (some ⟨g3, 0, none⟩) (N + 1) (N + 1) (ci .i32 (List.replicate (N + 1) 0)) 21 1, blk g1 [.bool b] 4] := H_.cast_ (by rw [ci_rep]; rfl)
  clear H_
  have rlg3 : (List.replicate (N + 1) (0 : Int)).length = N + 1 := List.length_replicate
  refine ql (.slice (some ⟨g3, 0, none⟩) (N + 1) (N + 1)) (by kernel_rfl) (by kernel_rfl) ?_
  refine wpList_nil ?_
  refine x_then ?_
  refine wp_seq ?_
  refine wp_seq ?_
  refine wp_region_lit ?_
  refine ql (.slice A arcs.length c) (by kernel_rfl) (by kernel_rfl) ?_
  refine ql (.int .i64 (arcs.length : Int)) (by kernel_rfl) (by kernel_rfl) ?_
  refine ql (.int .i64 0) (by kernel_rfl) (by kernel_rfl) ?_
  refine wpList_nil ?_
  refine x_then ?_
  refine wp_block ?_
  refine wp_loop_ghost (fun kq a' w' => ∃ (J5 : Nat → Value) (i : Int) (bs : List Int) , a' = Fr ((.int .i64 (N : Int)) :: (.slice A arcs.length c) :: (.bool b) :: undef :: undef :: (.pointer (some ⟨g1, 0, none⟩)) :: (.slice none 0 0) :: (.slice none 0 0) :: (.func (.func 63) #[] #[.pointer (some ⟨g1, 0, none⟩)]) :: (.slice (some ⟨g3, 0, none⟩) (N + 1) (N + 1)) :: undef :: ((J5 11)) :: undef :: undef :: undef :: undef :: undef :: undef :: (.func (.func 63) #[] #[.pointer (some ⟨g1, 0, none⟩)]) :: (.int .i64 (N : Int)) :: (.int .i64 ((N : Int) + 1)) :: (.slice (some ⟨g3, 0, none⟩) (N + 1) (N + 1)) :: (.slice A arcs.length c) :: (.int .i64 (arcs.length : Int)) :: (.int .i64 i) :: ((J5 25)) :: ((J5 26)) :: ((J5 27)) :: ((J5 28)) :: ((J5 29)) :: ((J5 30)) :: ((J5 31)) :: ((J5 32)) :: ((J5 33)) :: ((J5 34)) :: ((J5 35)) :: ((J5 36)) :: ((J5 37)) :: undef :: undef :: undef :: undef :: undef :: undef :: undef :: undef :: undef :: undef :: undef :: undef :: undef :: undef :: undef :: undef :: undef :: undef :: undef :: undef :: undef :: undef :: undef :: undef :: undef :: undef :: undef :: undef :: undef :: undef :: undef :: undef :: undef :: undef :: undef :: undef :: undef :: undef :: undef :: undef :: undef :: undef :: undef :: undef :: undef :: undef :: undef :: undef :: []) ∧ kq = (arcs.length - (i).toNat) ∧ (0 ≤ i) ∧ (i ≤ arcs.length) ∧ (bs = bg N ((keys b arcs).take (i).toNat)) ∧ St W (owns []) w' [row (some ⟨g3, 0, none⟩) (N + 1) (N + 1) (ci .i32 bs) 21 1, blk g1 [.bool b] 4]) (arcs.length - ((0 : Int)).toNat) ⟨(fun k_ : Nat => List.getD ((.int .i64 (N : Int)) :: (.slice A arcs.length c) :: (.bool b) :: undef :: undef :: (.pointer (some ⟨g1, 0, none⟩)) :: (.slice none 0 0) :: (.slice none 0 0) :: (.func (.func 63) #[] #[.pointer (some ⟨g1, 0, none⟩)]) :: (.slice (some ⟨g3, 0, none⟩) (N + 1) (N + 1)) :: undef :: undef :: undef :: undef :: undef :: undef :: undef :: undef :: (.func (.func 63) #[] #[.pointer (some ⟨g1, 0, none⟩)]) :: (.int .i64 (N : Int)) :: (.int .i64 ((N : Int) + 1)) :: (.slice (some ⟨g3, 0, none⟩) (N + 1) (N + 1)) :: (.slice A arcs.length c) :: (.int .i64 (arcs.length : Int)) :: (.int .i64 0) :: undef :: undef :: undef :: undef :: undef :: undef :: undef :: undef :: undef :: undef :: undef :: undef :: undef :: undef :: undef :: undef :: undef :: undef :: undef :: undef :: undef :: undef :: undef :: undef :: undef :: undef :: undef :: undef :: undef :: undef :: undef :: undef :: undef :: undef :: undef :: undef :: undef :: undef :: undef :: undef :: undef :: undef :: undef :: undef :: undef :: undef :: undef :: undef :: undef :: undef :: undef :: undef :: undef :: undef :: undef :: undef :: undef :: undef :: undef :: undef :: undef :: []) k_ undef), (0 : Int), List.replicate (N + 1) 0, congrArg Fr (by kernel_rfl), rfl, by omega, by omega, by rw [← bg_nil]; rfl, HS⟩ ?_
  clear HS
  intro kq6 a' W7 hrel
  obtain ⟨J5, i, bs, rfl, hk, h0, h1, hb, HS⟩ := hrel
  have hbl : bs.length = N + 1 := by rw [hb]; simp [bg]
  refine wp_seq ?_
  refine wp_region_lit ?_
  by_cases hc8 : i < (arcs.length : Int)
  · skip
    refine ql (.bool true) (by kernel_rfl) (R_bool (p := i < (arcs.length : Int)) (by kernel_rfl) (hc8)) ?_
    refine wpList_nil ?_
    refine x_then ?_
    refine wp_seq ?_
    refine wp_cond_true (by kernel_rfl) ?_
    refine wp_skip ?_
    refine x_then ?_
    refine wp_seq ?_
    refine wp_block ?_
    refine wp_seq ?_
    refine wp_region_lit ?_
    obtain ⟨ad9, rfl⟩ := Rd.isSome_ hr (by rw [cf_len (z := 2) (fun _ => rfl)]; omega)
    refine ql (.pointer (some (ad9.add (i.toNat * 2)))) (by kernel_rfl) (R_indexA (k := .i64) (p := ad9) (n := arcs.length) (c := c) (i := i) (by kernel_rfl) (by kernel_rfl) Try.underlying65 (by kernel_rfl) (by omega) (by omega)) ?_
    refine ql (.agg #[.int .i64 ((gx arcs i).1), .int .i64 ((gx arcs i).2)]) (by kernel_rfl) (R_loadN (p := ad9.add (i.toNat * 2)) [.int .i64 ((gx arcs i).1), .int .i64 ((gx arcs i).2)] (by kernel_rfl) (by kernel_rfl) (by kernel_rfl) (by kernel_rfl) (HS.oldN (Rd.elem (f := arcC) (fun _ => rfl) hr (gx_eq (by omega) (by omega))))) ?_
    refine kb HS [.int .i64 0, .int .i64 0] 35 (fun g => .pointer (some ⟨g, 0, none⟩)) (by kernel_rfl) (by kernel_rfl) ?_
    intro g10 W11 H_
    replace HS : St W (owns []) W11 [blk g10 [.int .i64 0, .int .i64 0] 35, row (some ⟨g3, 0, none⟩) (N + 1) (N + 1) (ci .i32 bs) 21 1, blk g1 [.bool b] 4] := H_
    clear H_
    refine ks (v := .agg #[.int .i64 ((gx arcs i).1), .int .i64 ((gx arcs i).2)]) HS 0 rfl (0) [.int .i64 ((gx arcs i).1), .int .i64 ((gx arcs i).2)] (by kernel_rfl) (by kernel_rfl) (by kernel_rfl) (by kernel_rfl) (by kernel_rfl) (one_ (by kernel_rfl)) (Nat.le_of_ble_eq_true rfl) rfl ?_
    intro W12 H_
    replace HS : St W (owns []) W12 [blk g10 [.int .i64 ((gx arcs i).1), .int .i64 ((gx arcs i).2)] 35, row (some ⟨g3, 0, none⟩) (N + 1) (N + 1) (ci .i32 bs) 21 1, blk g1 [.bool b] 4] := H_
    clear H_
    refine wpList_nil ?_
    refine x_then ?_
    have kf := key_fine hF (b := b) h0 hc8
    have kr_ := bg_rd (N := N) (ks := (keys b arcs).take i.toNat) (v := key b (gx arcs i) + 1) (by omega) (by omega)
    rw [← hb] at kr_
    have kl_ := cnt_le ((keys b arcs).take i.toNat) (key b (gx arcs i) + 1 - 1)
    have km_ : ((keys b arcs).take i.toNat).length ≤ arcs.length := by rw [List.length_take, keys_len]; omega
    refine wp_region_lit ?_
    refine ql (.slice (some ⟨g3, 0, none⟩) (N + 1) (N + 1)) (by kernel_rfl) (by kernel_rfl) ?_
    refine ql (.func (.func 63) #[] #[.pointer (some ⟨g1, 0, none⟩)]) (by kernel_rfl) (by kernel_rfl) ?_
    refine ql (.agg #[.int .i64 ((gx arcs i).1), .int .i64 ((gx arcs i).2)]) (by kernel_rfl) (R_loadN (p := ⟨g10, 0, none⟩) [.int .i64 ((gx arcs i).1), .int .i64 ((gx arcs i).2)] (by kernel_rfl) (by kernel_rfl) (by kernel_rfl) (by kernel_rfl) (two_at (HS.cell (i := 0) (j := 0) rfl rfl) (HS.cell (i := 0) (j := 1) rfl rfl))) ?_
    refine qc (f := 63) (args := #[.agg #[.int .i64 ((gx arcs i).1), .int .i64 ((gx arcs i).2)], .pointer (some ⟨g1, 0, none⟩)]) (by kernel_rfl) (R_callv (caps := #[.pointer (some ⟨g1, 0, none⟩)]) #[.agg #[.int .i64 ((gx arcs i).1), .int .i64 ((gx arcs i).2)], .pointer (some ⟨g1, 0, none⟩)] (by kernel_rfl) Try.func63 (by kernel_rfl) (by kernel_rfl) (by kernel_rfl)) ?_
    refine (node_calls b ((gx arcs i).1) ((gx arcs i).2) g1 _ (HS.cell (i := 2) (j := 0) rfl rfl)).mono ?_
    rintro e W13 ⟨rfl, H_⟩
    refine ⟨_, rfl, ?_⟩
    replace HS : St W (owns []) W13 [blk g10 [.int .i64 ((gx arcs i).1), .int .i64 ((gx arcs i).2)] 35, row (some ⟨g3, 0, none⟩) (N + 1) (N + 1) (ci .i32 bs) 21 1, blk g1 [.bool b] 4] := HS.join (F := []) (G := []) H_
    clear H_
    refine ql (.int .i64 ((key b (gx arcs i)) + 1)) (by kernel_rfl) (R_int (by kernel_rfl) (w64 (by omega))) ?_
    refine ql (.pointer (some ⟨g3, ((key b (gx arcs i)) + 1).toNat, none⟩)) (by kernel_rfl) (R_index1 (k := .i64) (g := g3) (n := (N + 1)) (c := (N + 1)) (i := (key b (gx arcs i)) + 1) (by kernel_rfl) (by kernel_rfl) Try.underlying67 (by kernel_rfl) (by omega) (by omega)) ?_
    refine ql (.int .i32 (rdI bs ((key b (gx arcs i)) + 1))) (by kernel_rfl) (R_load (p := ⟨g3, ((key b (gx arcs i)) + 1).toNat, none⟩) (by kernel_rfl) (by kernel_rfl) (by kernel_rfl) (HS.rcell (i := 1) rfl (ci_rd (by omega) (by omega)))) ?_
    refine ql (.int .i32 ((rdI bs ((key b (gx arcs i)) + 1)) + 1)) (by kernel_rfl) (R_int (by kernel_rfl) (w32 (by omega))) ?_
    refine ql (.pointer (some ⟨g3, ((key b (gx arcs i)) + 1).toNat, none⟩)) (by kernel_rfl) (R_index1 (k := .i64) (g := g3) (n := (N + 1)) (c := (N + 1)) (i := (key b (gx arcs i)) + 1) (by kernel_rfl) (by kernel_rfl) Try.underlying67 (by kernel_rfl) (by omega) (by omega)) ?_
    refine kr (v := .int .i32 ((rdI bs ((key b (gx arcs i)) + 1)) + 1)) HS 1 rfl (((key b (gx arcs i)) + 1).toNat) [.int .i32 ((rdI bs ((key b (gx arcs i)) + 1)) + 1)] (by kernel_rfl) (by kernel_rfl) (by kernel_rfl) (by kernel_rfl) (by kernel_rfl) (one_ (by kernel_rfl)) (by rw [ci_len]; first | omega | (simp only [List.length_singleton]; omega)) rfl ?_
    intro W14 H_
    obtain ⟨xs15, xs15_⟩ : ∃ z_ : List Int, z_ = (bs).set ((key b (gx arcs i)) + 1).toNat ((rdI bs ((key b (gx arcs i)) + 1)) + 1) := ⟨_, rfl⟩
    replace HS : St W (owns []) W14 [blk g10 [.int .i64 ((gx arcs i).1), .int .i64 ((gx arcs i).2)] 35, row (some ⟨g3, 0, none⟩) (N + 1) (N + 1) (ci .i32 xs15) 21 1, blk g1 [.bool b] 4] := H_.cast_ (by rw [xs15_, ← ci_set]; rfl)
    clear H_
    have xs15l : xs15.length = N + 1 := by rw [xs15_, List.length_set]; first | done | omega
    refine wpList_nil ?_
    refine x_inb ?_
    refine x_then ?_
    refine wp_region_lit ?_
    refine ql (.int .i64 (i + 1)) (by kernel_rfl) (R_int (by kernel_rfl) (w64 (by omega))) ?_
    refine ql (.int .i64 (i + 1)) (by kernel_rfl) (by kernel_rfl) ?_
    refine wpList_nil ?_
    replace HS := HS.drop1
    have e_ : xs15 = bg N ((keys b arcs).take (i + 1).toNat) := by rw [xs15_, hb, show (i + 1).toNat = i.toNat + 1 by omega]; exact bg_step (keys_get h0 (by omega)) kf.1 kf.2
    refine x_then ?_
    exact ⟨arcs.length - (i + 1).toNat, by omega, (fun k_ : Nat => List.getD ((.int .i64 (N : Int)) :: (.slice (some ad9) arcs.length c) :: (.bool b) :: undef :: undef :: (.pointer (some ⟨g1, 0, none⟩)) :: (.slice none 0 0) :: (.slice none 0 0) :: (.func (.func 63) #[] #[.pointer (some ⟨g1, 0, none⟩)]) :: (.slice (some ⟨g3, 0, none⟩) (N + 1) (N + 1)) :: undef :: (.pointer (some ⟨g10, 0, none⟩)) :: undef :: undef :: undef :: undef :: undef :: undef :: (.func (.func 63) #[] #[.pointer (some ⟨g1, 0, none⟩)]) :: (.int .i64 (N : Int)) :: (.int .i64 ((N : Int) + 1)) :: (.slice (some ⟨g3, 0, none⟩) (N + 1) (N + 1)) :: (.slice (some ad9) arcs.length c) :: (.int .i64 (arcs.length : Int)) :: (.int .i64 (i + 1)) :: (.bool true) :: (.pointer (some (ad9.add (i.toNat * 2)))) :: (.agg #[.int .i64 ((gx arcs i).1), .int .i64 ((gx arcs i).2)]) :: (.slice (some ⟨g3, 0, none⟩) (N + 1) (N + 1)) :: (.func (.func 63) #[] #[.pointer (some ⟨g1, 0, none⟩)]) :: (.agg #[.int .i64 ((gx arcs i).1), .int .i64 ((gx arcs i).2)]) :: (.int .i64 (key b (gx arcs i))) :: (.int .i64 ((key b (gx arcs i)) + 1)) :: (.pointer (some ⟨g3, ((key b (gx arcs i)) + 1).toNat, none⟩)) :: (.int .i32 (rdI bs ((key b (gx arcs i)) + 1))) :: (.int .i32 ((rdI bs ((key b (gx arcs i)) + 1)) + 1)) :: (.pointer (some ⟨g3, ((key b (gx arcs i)) + 1).toNat, none⟩)) :: (.int .i64 (i + 1)) :: undef :: undef :: undef :: undef :: undef :: undef :: undef :: undef :: undef :: undef :: undef :: undef :: undef :: undef :: undef :: undef :: undef :: undef :: undef :: undef :: undef :: undef :: undef :: undef :: undef :: undef :: undef :: undef :: undef :: undef :: undef :: undef :: undef :: undef :: undef :: undef :: undef :: undef :: undef :: undef :: undef :: undef :: undef :: undef :: undef :: undef :: undef :: undef :: []) k_ undef), i + 1, xs15, congrArg Fr (by kernel_rfl), rfl, by omega, by omega, e_, HS⟩
  · skip
    refine ql (.bool false) (by kernel_rfl) (R_nbool (p := i < (arcs.length : Int)) (by kernel_rfl) (hc8)) ?_
    refine wpList_nil ?_
    refine x_then ?_
    refine wp_seq ?_
    refine wp_cond_false (by kernel_rfl) ?_
    refine wp_exit ?_
    refine x_thenE ?_
    refine x_thenE ?_
    refine x_hit ?_
    refine x_then ?_
    refine wp_seq ?_
    refine wp_seq ?_
    refine wp_region_lit ?_
    refine ql (.int .i64 (N : Int)) (by kernel_rfl) (by kernel_rfl) ?_
    refine ql (.int .i64 0) (by kernel_rfl) (by kernel_rfl) ?_
    refine wpList_nil ?_
    refine x_then ?_
    refine wp_block ?_
    have hb2 : bs = bm N (keys b arcs) 0 := by rw [hb, List.take_of_length_le (by rw [keys_len]; omega)]; exact bg_bm (fun k hk => (keys_fine hF k hk).1)
    refine wp_loop_ghost (fun kq a' w' => ∃ (J16 : Nat → Value) (k : Int) (ds : List Int) , a' = Fr ((.int .i64 (N : Int)) :: (.slice A arcs.length c) :: (.bool b) :: undef :: undef :: (.pointer (some ⟨g1, 0, none⟩)) :: (.slice none 0 0) :: (.slice none 0 0) :: (.func (.func 63) #[] #[.pointer (some ⟨g1, 0, none⟩)]) :: (.slice (some ⟨g3, 0, none⟩) (N + 1) (N + 1)) :: undef :: ((J5 11)) :: ((J16 12)) :: undef :: undef :: undef :: undef :: undef :: (.func (.func 63) #[] #[.pointer (some ⟨g1, 0, none⟩)]) :: (.int .i64 (N : Int)) :: (.int .i64 ((N : Int) + 1)) :: (.slice (some ⟨g3, 0, none⟩) (N + 1) (N + 1)) :: (.slice A arcs.length c) :: (.int .i64 (arcs.length : Int)) :: (.int .i64 i) :: (.bool false) :: ((J5 26)) :: ((J5 27)) :: ((J5 28)) :: ((J5 29)) :: ((J5 30)) :: ((J5 31)) :: ((J5 32)) :: ((J5 33)) :: ((J5 34)) :: ((J5 35)) :: ((J5 36)) :: ((J5 37)) :: (.int .i64 (N : Int)) :: (.int .i64 k) :: ((J16 40)) :: ((J16 41)) :: ((J16 42)) :: ((J16 43)) :: ((J16 44)) :: ((J16 45)) :: ((J16 46)) :: ((J16 47)) :: ((J16 48)) :: ((J16 49)) :: ((J16 50)) :: ((J16 51)) :: ((J16 52)) :: ((J16 53)) :: undef :: undef :: undef :: undef :: undef :: undef :: undef :: undef :: undef :: undef :: undef :: undef :: undef :: undef :: undef :: undef :: undef :: undef :: undef :: undef :: undef :: undef :: undef :: undef :: undef :: undef :: undef :: undef :: undef :: undef :: undef :: undef :: []) ∧ kq = (N - (k).toNat) ∧ (0 ≤ k) ∧ (k ≤ N) ∧ (ds = bm N (keys b arcs) (k).toNat) ∧ St W (owns []) w' [row (some ⟨g3, 0, none⟩) (N + 1) (N + 1) (ci .i32 ds) 21 1, blk g1 [.bool b] 4]) (N - ((0 : Int)).toNat) ⟨(fun k_ : Nat => List.getD ((.int .i64 (N : Int)) :: (.slice A arcs.length c) :: (.bool b) :: undef :: undef :: (.pointer (some ⟨g1, 0, none⟩)) :: (.slice none 0 0) :: (.slice none 0 0) :: (.func (.func 63) #[] #[.pointer (some ⟨g1, 0, none⟩)]) :: (.slice (some ⟨g3, 0, none⟩) (N + 1) (N + 1)) :: undef :: ((J5 11)) :: undef :: undef :: undef :: undef :: undef :: undef :: (.func (.func 63) #[] #[.pointer (some ⟨g1, 0, none⟩)]) :: (.int .i64 (N : Int)) :: (.int .i64 ((N : Int) + 1)) :: (.slice (some ⟨g3, 0, none⟩) (N + 1) (N + 1)) :: (.slice A arcs.length c) :: (.int .i64 (arcs.length : Int)) :: (.int .i64 i) :: (.bool false) :: ((J5 26)) :: ((J5 27)) :: ((J5 28)) :: ((J5 29)) :: ((J5 30)) :: ((J5 31)) :: ((J5 32)) :: ((J5 33)) :: ((J5 34)) :: ((J5 35)) :: ((J5 36)) :: ((J5 37)) :: (.int .i64 (N : Int)) :: (.int .i64 0) :: undef :: undef :: undef :: undef :: undef :: undef :: undef :: undef :: undef :: undef :: undef :: undef :: undef :: undef :: undef :: undef :: undef :: undef :: undef :: undef :: undef :: undef :: undef :: undef :: undef :: undef :: undef :: undef :: undef :: undef :: undef :: undef :: undef :: undef :: undef :: undef :: undef :: undef :: undef :: undef :: undef :: undef :: undef :: undef :: undef :: undef :: []) k_ undef), (0 : Int), bs, congrArg Fr (by kernel_rfl), rfl, by omega, by omega, hb2, HS⟩ ?_
    clear HS
    intro kq17 a' W18 hrel
    obtain ⟨J16, k, ds, rfl, hk, h0, h1, hb, HS⟩ := hrel
    have hbl : ds.length = N + 1 := by rw [hb]; simp [bm]
    refine wp_seq ?_
    refine wp_region_lit ?_
    by_cases hc19 : k < (N : Int)
    · skip
      refine ql (.bool true) (by kernel_rfl) (R_bool (p := k < (N : Int)) (by kernel_rfl) (hc19)) ?_
      refine wpList_nil ?_
      refine x_then ?_
      refine wp_seq ?_
      refine wp_cond_true (by kernel_rfl) ?_
      refine wp_skip ?_
      refine x_then ?_
      refine wp_seq ?_
      refine wp_block ?_
      refine wp_seq ?_
      refine wp_region_lit ?_
      refine ql (.int .i64 k) (by kernel_rfl) (by kernel_rfl) ?_
      refine ql (.int .i64 k) (by kernel_rfl) (by kernel_rfl) ?_
      refine wpList_nil ?_
      refine x_then ?_
      have r1 := bm_rd (N := N) (ks := keys b arcs) (k := k.toNat) (v := k + 1) (by omega) (by omega)
      have r2 := bm_rd (N := N) (ks := keys b arcs) (k := k.toNat) (v := k) (by omega) (by omega)
      rw [if_neg (by omega)] at r1
      rw [if_pos (by omega)] at r2
      rw [← hb] at r1 r2
      have l1 := cnt_le (keys b arcs) (k + 1 - 1)
      have l2 := low_le (keys b arcs) k
      rw [keys_len] at l1 l2
      refine rg_still HS 11 (by kernel_rfl) (by kernel_rfl) ?_
      intro W20 H_ HK_
      simp only [List.take_succ_cons, List.take_zero, List.drop_succ_cons, List.drop_zero]
      replace HS : St W (owns []) W20 [row (some ⟨g3, 0, none⟩) (N + 1) (N + 1) (ci .i32 ds) 21 1, blk g1 [.bool b] 4] := H_
      clear H_
      clear HK_
      refine qs (.slice (some ⟨g3, 0, none⟩) (N + 1) (N + 1)) (by kernel_rfl) (by kernel_rfl) ?_
      refine qs (.int .i64 k) (by kernel_rfl) (by kernel_rfl) ?_
      refine qs (.int .i64 (k + 1)) (by kernel_rfl) (R_int (by kernel_rfl) (w64 (by omega))) ?_
      refine qs (.pointer (some ⟨g3, (k + 1).toNat, none⟩)) (by kernel_rfl) (R_index1 (k := .i64) (g := g3) (n := (N + 1)) (c := (N + 1)) (i := k + 1) (by kernel_rfl) (by kernel_rfl) Try.underlying67 (by kernel_rfl) (by omega) (by omega)) ?_
      refine qs (.int .i32 (rdI ds (k + 1))) (by kernel_rfl) (R_load (p := ⟨g3, (k + 1).toNat, none⟩) (by kernel_rfl) (by kernel_rfl) (by kernel_rfl) (HS.rcell (i := 0) rfl (ci_rd (by omega) (by omega)))) ?_
      refine qs (.slice (some ⟨g3, 0, none⟩) (N + 1) (N + 1)) (by kernel_rfl) (by kernel_rfl) ?_
      refine qs (.int .i64 k) (by kernel_rfl) (by kernel_rfl) ?_
      refine qs (.pointer (some ⟨g3, k.toNat, none⟩)) (by kernel_rfl) (R_index1 (k := .i64) (g := g3) (n := (N + 1)) (c := (N + 1)) (i := k) (by kernel_rfl) (by kernel_rfl) Try.underlying67 (by kernel_rfl) (by omega) (by omega)) ?_
      refine qs (.int .i32 (rdI ds k)) (by kernel_rfl) (R_load (p := ⟨g3, k.toNat, none⟩) (by kernel_rfl) (by kernel_rfl) (by kernel_rfl) (HS.rcell (i := 0) rfl (ci_rd (by omega) (by omega)))) ?_
      refine qs (.int .i32 ((rdI ds (k + 1)) + (rdI ds k))) (by kernel_rfl) (R_int (by kernel_rfl) (w32 (by omega))) ?_
      refine qs (.pointer (some ⟨g3, (k + 1).toNat, none⟩)) (by kernel_rfl) (R_index1 (k := .i64) (g := g3) (n := (N + 1)) (c := (N + 1)) (i := k + 1) (by kernel_rfl) (by kernel_rfl) Try.underlying67 (by kernel_rfl) (by omega) (by omega)) ?_
      refine wpStill_nil ?_
      refine kr (v := .int .i32 ((rdI ds (k + 1)) + (rdI ds k))) HS 0 rfl ((k + 1).toNat) [.int .i32 ((rdI ds (k + 1)) + (rdI ds k))] (by kernel_rfl) (by kernel_rfl) (by kernel_rfl) (by kernel_rfl) (by kernel_rfl) (one_ (by kernel_rfl)) (by rw [ci_len]; first | omega | (simp only [List.length_singleton]; omega)) rfl ?_
      intro W21 H_
      obtain ⟨xs22, xs22_⟩ : ∃ z_ : List Int, z_ = (ds).set (k + 1).toNat ((rdI ds (k + 1)) + (rdI ds k)) := ⟨_, rfl⟩
      replace HS : St W (owns []) W21 [row (some ⟨g3, 0, none⟩) (N + 1) (N + 1) (ci .i32 xs22) 21 1, blk g1 [.bool b] 4] := H_.cast_ (by rw [xs22_, ← ci_set]; rfl)
      clear H_
      have xs22l : xs22.length = N + 1 := by rw [xs22_, List.length_set]; first | done | omega
      refine wpList_nil ?_
      refine x_inb ?_
      refine x_then ?_
      refine wp_region_lit ?_
      refine ql (.int .i64 (k + 1)) (by kernel_rfl) (R_int (by kernel_rfl) (w64 (by omega))) ?_
      refine ql (.int .i64 (k + 1)) (by kernel_rfl) (by kernel_rfl) ?_
      refine wpList_nil ?_
      have e_ : xs22 = bm N (keys b arcs) (k + 1).toNat := by rw [xs22_, hb]; exact bm_step (by omega) (by omega)
      refine x_then ?_
      exact ⟨N - (k + 1).toNat, by omega, (fun k_ : Nat => List.getD ((.int .i64 (N : Int)) :: (.slice A arcs.length c) :: (.bool b) :: undef :: undef :: (.pointer (some ⟨g1, 0, none⟩)) :: (.slice none 0 0) :: (.slice none 0 0) :: (.func (.func 63) #[] #[.pointer (some ⟨g1, 0, none⟩)]) :: (.slice (some ⟨g3, 0, none⟩) (N + 1) (N + 1)) :: undef :: ((J5 11)) :: (.int .i64 k) :: undef :: undef :: undef :: undef :: undef :: (.func (.func 63) #[] #[.pointer (some ⟨g1, 0, none⟩)]) :: (.int .i64 (N : Int)) :: (.int .i64 ((N : Int) + 1)) :: (.slice (some ⟨g3, 0, none⟩) (N + 1) (N + 1)) :: (.slice A arcs.length c) :: (.int .i64 (arcs.length : Int)) :: (.int .i64 i) :: (.bool false) :: ((J5 26)) :: ((J5 27)) :: ((J5 28)) :: ((J5 29)) :: ((J5 30)) :: ((J5 31)) :: ((J5 32)) :: ((J5 33)) :: ((J5 34)) :: ((J5 35)) :: ((J5 36)) :: ((J5 37)) :: (.int .i64 (N : Int)) :: (.int .i64 (k + 1)) :: (.bool true) :: (.int .i64 k) :: (.slice (some ⟨g3, 0, none⟩) (N + 1) (N + 1)) :: (.int .i64 k) :: (.int .i64 (k + 1)) :: (.pointer (some ⟨g3, (k + 1).toNat, none⟩)) :: (.int .i32 (rdI ds (k + 1))) :: (.slice (some ⟨g3, 0, none⟩) (N + 1) (N + 1)) :: (.int .i64 k) :: (.pointer (some ⟨g3, k.toNat, none⟩)) :: (.int .i32 (rdI ds k)) :: (.int .i32 ((rdI ds (k + 1)) + (rdI ds k))) :: (.pointer (some ⟨g3, (k + 1).toNat, none⟩)) :: (.int .i64 (k + 1)) :: undef :: undef :: undef :: undef :: undef :: undef :: undef :: undef :: undef :: undef :: undef :: undef :: undef :: undef :: undef :: undef :: undef :: undef :: undef :: undef :: undef :: undef :: undef :: undef :: undef :: undef :: undef :: undef :: undef :: undef :: undef :: undef :: []) k_ undef), k + 1, xs22, congrArg Fr (by kernel_rfl), rfl, by omega, by omega, e_, HS⟩
    · skip
      refine ql (.bool false) (by kernel_rfl) (R_nbool (p := k < (N : Int)) (by kernel_rfl) (hc19)) ?_
      refine wpList_nil ?_
      refine x_then ?_
      refine wp_seq ?_
      refine wp_cond_false (by kernel_rfl) ?_
      refine wp_exit ?_
      refine x_thenE ?_
      refine x_thenE ?_
      refine x_hit ?_
      refine x_then ?_
      refine wp_seq ?_
      have hk2 : k = N := by omega
      have hb3 : ds = bl N (keys b arcs) := by rw [hb, hk2, Int.toNat_natCast, bm_bl]
      subst hb3
      have hbl2 : (bl N (keys b arcs)).length = N + 1 := by simp [bl]
      refine wp_region_lit ?_
      refine ql (.slice (some ⟨g3, 0, none⟩) (N + 1) (N + 1)) (by kernel_rfl) (by kernel_rfl) ?_
      refine ka0 HS (Src.of_row HS (i := 0) rfl ci_one) [.int .i32 0] 4 (by kernel_rfl) (by kernel_rfl) (by kernel_rfl) Try.underlying67 (by kernel_rfl) (by kernel_rfl) (by kernel_rfl) (by kernel_rfl) (by decide) (by omega) (by omega) ?_
      intro A23 c24 W25 H_
      replace HS : St W (owns []) W25 [row A23 (N + 1) c24 (ci .i32 (bl N (keys b arcs))) 21 1, row (some ⟨g3, 0, none⟩) (N + 1) (N + 1) (ci .i32 (bl N (keys b arcs))) 21 1, blk g1 [.bool b] 4] := H_
      clear H_
      refine ql (.slice A23 (N + 1) c24) (by kernel_rfl) (by kernel_rfl) ?_
      refine wpList_nil ?_
      refine x_then ?_
      refine wp_seq ?_
      refine wp_region_lit ?_
      refine ql (.slice A arcs.length c) (by kernel_rfl) (by kernel_rfl) ?_
      refine ql (.int .i64 (arcs.length : Int)) (by kernel_rfl) (by kernel_rfl) ?_
      refine km HS (arcs.length) [.int .i32 0] 4 (by kernel_rfl) (k_eq (k := .i64) (m := (arcs.length : Int)) (by kernel_rfl) (by omega)) (k_eq (k := .i64) (m := (arcs.length : Int)) (by kernel_rfl) (by omega)) Try.underlying67 (by kernel_rfl) (by kernel_rfl) (by kernel_rfl) (by decide) (by omega) (by omega) ?_
      intro g26 W27 H_
      replace HS : St W (owns []) W27 [row (some ⟨g26, 0, none⟩) arcs.length arcs.length (ci .i32 (List.replicate (arcs.length) 0)) 21 1, row A23 (N + 1) c24 (ci .i32 (bl N (keys b arcs))) 21 1, row (some ⟨g3, 0, none⟩) (N + 1) (N + 1) (ci .i32 (bl N (keys b arcs))) 21 1, blk g1 [.bool b] 4] := H_.cast_ (by rw [ci_rep]; rfl)
      clear H_
      have rlg26 : (List.replicate (arcs.length) (0 : Int)).length = arcs.length := List.length_replicate
      refine ql (.slice (some ⟨g26, 0, none⟩) arcs.length arcs.length) (by kernel_rfl) (by kernel_rfl) ?_
      refine wpList_nil ?_
      refine x_then ?_
      refine wp_seq ?_
      refine wp_seq ?_
      have hat_ : bl N (keys b arcs) = ba N (keys b arcs) (0 : Int).toNat := bl_ba
      obtain ⟨gat, rfl⟩ := St.rsome HS (i := 1) rfl (by omega)
      refine wp_region_lit ?_
      refine ql (.slice A arcs.length c) (by kernel_rfl) (by kernel_rfl) ?_
      refine ql (.int .i64 (arcs.length : Int)) (by kernel_rfl) (by kernel_rfl) ?_
      refine ql (.int .i64 0) (by kernel_rfl) (by kernel_rfl) ?_
      refine wpList_nil ?_
      refine x_then ?_
      refine wp_block ?_
      refine wp_loop_ghost (fun kq a' w' => ∃ (J28 : Nat → Value) (p : Int) (os : List Int) (as_ : List Int) , a' = Fr ((.int .i64 (N : Int)) :: (.slice A arcs.length c) :: (.bool b) :: undef :: undef :: (.pointer (some ⟨g1, 0, none⟩)) :: (.slice none 0 0) :: (.slice none 0 0) :: (.func (.func 63) #[] #[.pointer (some ⟨g1, 0, none⟩)]) :: (.slice (some ⟨g3, 0, none⟩) (N + 1) (N + 1)) :: undef :: ((J5 11)) :: ((J16 12)) :: (.slice (some ⟨gat, 0, none⟩) (N + 1) c24) :: (.slice (some ⟨g26, 0, none⟩) arcs.length arcs.length) :: ((J28 15)) :: ((J28 16)) :: ((J28 17)) :: (.func (.func 63) #[] #[.pointer (some ⟨g1, 0, none⟩)]) :: (.int .i64 (N : Int)) :: (.int .i64 ((N : Int) + 1)) :: (.slice (some ⟨g3, 0, none⟩) (N + 1) (N + 1)) :: (.slice A arcs.length c) :: (.int .i64 (arcs.length : Int)) :: (.int .i64 i) :: (.bool false) :: ((J5 26)) :: ((J5 27)) :: ((J5 28)) :: ((J5 29)) :: ((J5 30)) :: ((J5 31)) :: ((J5 32)) :: ((J5 33)) :: ((J5 34)) :: ((J5 35)) :: ((J5 36)) :: ((J5 37)) :: (.int .i64 (N : Int)) :: (.int .i64 k) :: (.bool false) :: ((J16 41)) :: ((J16 42)) :: ((J16 43)) :: ((J16 44)) :: ((J16 45)) :: ((J16 46)) :: ((J16 47)) :: ((J16 48)) :: ((J16 49)) :: ((J16 50)) :: ((J16 51)) :: ((J16 52)) :: ((J16 53)) :: (.slice (some ⟨g3, 0, none⟩) (N + 1) (N + 1)) :: (.slice (some ⟨gat, 0, none⟩) (N + 1) c24) :: (.slice A arcs.length c) :: (.int .i64 (arcs.length : Int)) :: (.slice (some ⟨g26, 0, none⟩) arcs.length arcs.length) :: (.slice A arcs.length c) :: (.int .i64 (arcs.length : Int)) :: (.int .i64 p) :: ((J28 62)) :: ((J28 63)) :: ((J28 64)) :: ((J28 65)) :: ((J28 66)) :: ((J28 67)) :: ((J28 68)) :: ((J28 69)) :: ((J28 70)) :: ((J28 71)) :: ((J28 72)) :: ((J28 73)) :: ((J28 74)) :: ((J28 75)) :: ((J28 76)) :: ((J28 77)) :: ((J28 78)) :: ((J28 79)) :: ((J28 80)) :: ((J28 81)) :: ((J28 82)) :: ((J28 83)) :: undef :: undef :: []) ∧ kq = (arcs.length - (p).toNat) ∧ (0 ≤ p) ∧ (p ≤ arcs.length) ∧ (as_ = ba N (keys b arcs) (p).toNat) ∧ (Laid (keys b arcs) arcs.length (p).toNat os) ∧ St W (owns []) w' [row (some ⟨g26, 0, none⟩) arcs.length arcs.length (ci .i32 os) 21 1, row (some ⟨gat, 0, none⟩) (N + 1) c24 (ci .i32 as_) 21 1, row (some ⟨g3, 0, none⟩) (N + 1) (N + 1) (ci .i32 (bl N (keys b arcs))) 21 1, blk g1 [.bool b] 4]) (arcs.length - ((0 : Int)).toNat) ⟨(fun k_ : Nat => List.getD ((.int .i64 (N : Int)) :: (.slice A arcs.length c) :: (.bool b) :: undef :: undef :: (.pointer (some ⟨g1, 0, none⟩)) :: (.slice none 0 0) :: (.slice none 0 0) :: (.func (.func 63) #[] #[.pointer (some ⟨g1, 0, none⟩)]) :: (.slice (some ⟨g3, 0, none⟩) (N + 1) (N + 1)) :: undef :: ((J5 11)) :: ((J16 12)) :: (.slice (some ⟨gat, 0, none⟩) (N + 1) c24) :: (.slice (some ⟨g26, 0, none⟩) arcs.length arcs.length) :: undef :: undef :: undef :: (.func (.func 63) #[] #[.pointer (some ⟨g1, 0, none⟩)]) :: (.int .i64 (N : Int)) :: (.int .i64 ((N : Int) + 1)) :: (.slice (some ⟨g3, 0, none⟩) (N + 1) (N + 1)) :: (.slice A arcs.length c) :: (.int .i64 (arcs.length : Int)) :: (.int .i64 i) :: (.bool false) :: ((J5 26)) :: ((J5 27)) :: ((J5 28)) :: ((J5 29)) :: ((J5 30)) :: ((J5 31)) :: ((J5 32)) :: ((J5 33)) :: ((J5 34)) :: ((J5 35)) :: ((J5 36)) :: ((J5 37)) :: (.int .i64 (N : Int)) :: (.int .i64 k) :: (.bool false) :: ((J16 41)) :: ((J16 42)) :: ((J16 43)) :: ((J16 44)) :: ((J16 45)) :: ((J16 46)) :: ((J16 47)) :: ((J16 48)) :: ((J16 49)) :: ((J16 50)) :: ((J16 51)) :: ((J16 52)) :: ((J16 53)) :: (.slice (some ⟨g3, 0, none⟩) (N + 1) (N + 1)) :: (.slice (some ⟨gat, 0, none⟩) (N + 1) c24) :: (.slice A arcs.length c) :: (.int .i64 (arcs.length : Int)) :: (.slice (some ⟨g26, 0, none⟩) arcs.length arcs.length) :: (.slice A arcs.length c) :: (.int .i64 (arcs.length : Int)) :: (.int .i64 0) :: undef :: undef :: undef :: undef :: undef :: undef :: undef :: undef :: undef :: undef :: undef :: undef :: undef :: undef :: undef :: undef :: undef :: undef :: undef :: undef :: undef :: undef :: undef :: undef :: []) k_ undef), (0 : Int), List.replicate (arcs.length) 0, bl N (keys b arcs), congrArg Fr (by kernel_rfl), rfl, by omega, by omega, hat_, laid_zero _ _, HS⟩ ?_
      clear HS
      intro kq29 a' W30 hrel
      obtain ⟨J28, p, os, as_, rfl, hk, h0, h1, ha, ho, HS⟩ := hrel
      have hal : as_.length = N + 1 := by rw [ha]; simp [ba]
      refine wp_seq ?_
      refine wp_region_lit ?_
      by_cases hc31 : p < (arcs.length : Int)
      · skip
        refine ql (.bool true) (by kernel_rfl) (R_bool (p := p < (arcs.length : Int)) (by kernel_rfl) (hc31)) ?_
        refine wpList_nil ?_
        refine x_then ?_
        refine wp_seq ?_
        refine wp_cond_true (by kernel_rfl) ?_
        refine wp_skip ?_
        refine x_then ?_
        refine wp_seq ?_
        refine wp_block ?_
        refine wp_seq ?_
        refine wp_region_lit ?_
        refine ql (.int .i64 p) (by kernel_rfl) (by kernel_rfl) ?_
        obtain ⟨ad32, rfl⟩ := Rd.isSome_ hr (by rw [cf_len (z := 2) (fun _ => rfl)]; omega)
        refine ql (.pointer (some (ad32.add (p.toNat * 2)))) (by kernel_rfl) (R_indexA (k := .i64) (p := ad32) (n := arcs.length) (c := c) (i := p) (by kernel_rfl) (by kernel_rfl) Try.underlying65 (by kernel_rfl) (by omega) (by omega)) ?_
        refine ql (.agg #[.int .i64 ((gx arcs p).1), .int .i64 ((gx arcs p).2)]) (by kernel_rfl) (R_loadN (p := ad32.add (p.toNat * 2)) [.int .i64 ((gx arcs p).1), .int .i64 ((gx arcs p).2)] (by kernel_rfl) (by kernel_rfl) (by kernel_rfl) (by kernel_rfl) (HS.oldN (Rd.elem (f := arcC) (fun _ => rfl) hr (gx_eq (by omega) (by omega))))) ?_
        refine kb HS [.int .i64 0, .int .i64 0] 35 (fun g => .pointer (some ⟨g, 0, none⟩)) (by kernel_rfl) (by kernel_rfl) ?_
        intro g33 W34 H_
        replace HS : St W (owns []) W34 [blk g33 [.int .i64 0, .int .i64 0] 35, row (some ⟨g26, 0, none⟩) arcs.length arcs.length (ci .i32 os) 21 1, row (some ⟨gat, 0, none⟩) (N + 1) c24 (ci .i32 as_) 21 1, row (some ⟨g3, 0, none⟩) (N + 1) (N + 1) (ci .i32 (bl N (keys b arcs))) 21 1, blk g1 [.bool b] 4] := H_
        clear H_
        refine ql (.int .i64 p) (by kernel_rfl) (by kernel_rfl) ?_
        refine ks (v := .agg #[.int .i64 ((gx arcs p).1), .int .i64 ((gx arcs p).2)]) HS 0 rfl (0) [.int .i64 ((gx arcs p).1), .int .i64 ((gx arcs p).2)] (by kernel_rfl) (by kernel_rfl) (by kernel_rfl) (by kernel_rfl) (by kernel_rfl) (one_ (by kernel_rfl)) (Nat.le_of_ble_eq_true rfl) rfl ?_
        intro W35 H_
        replace HS : St W (owns []) W35 [blk g33 [.int .i64 ((gx arcs p).1), .int .i64 ((gx arcs p).2)] 35, row (some ⟨g26, 0, none⟩) arcs.length arcs.length (ci .i32 os) 21 1, row (some ⟨gat, 0, none⟩) (N + 1) c24 (ci .i32 as_) 21 1, row (some ⟨g3, 0, none⟩) (N + 1) (N + 1) (ci .i32 (bl N (keys b arcs))) 21 1, blk g1 [.bool b] 4] := H_
        clear H_
        refine wpList_nil ?_
        refine x_then ?_
        refine wp_seq ?_
        have kf := key_fine hF (b := b) h0 hc31
        have kg := keys_get (b := b) h0 hc31
        have r1 := ba_rd (N := N) (ks := keys b arcs) (i := p.toNat) (v := key b (gx arcs p)) kf.1 (by omega)
        rw [← ha] at r1
        have l1 := cnt_lt kg
        have l2 := low_add (keys b arcs) (key b (gx arcs p))
        rw [keys_len] at l2
        have oll := ho.1
        have r3 := Int.natCast_add (low (keys b arcs) (key b (gx arcs p))) (cnt (List.take p.toNat (keys b arcs)) (key b (gx arcs p)))
        refine wp_region_lit ?_
        refine ql (.func (.func 63) #[] #[.pointer (some ⟨g1, 0, none⟩)]) (by kernel_rfl) (by kernel_rfl) ?_
        refine ql (.agg #[.int .i64 ((gx arcs p).1), .int .i64 ((gx arcs p).2)]) (by kernel_rfl) (R_loadN (p := ⟨g33, 0, none⟩) [.int .i64 ((gx arcs p).1), .int .i64 ((gx arcs p).2)] (by kernel_rfl) (by kernel_rfl) (by kernel_rfl) (by kernel_rfl) (two_at (HS.cell (i := 0) (j := 0) rfl rfl) (HS.cell (i := 0) (j := 1) rfl rfl))) ?_
        refine qc (f := 63) (args := #[.agg #[.int .i64 ((gx arcs p).1), .int .i64 ((gx arcs p).2)], .pointer (some ⟨g1, 0, none⟩)]) (by kernel_rfl) (R_callv (caps := #[.pointer (some ⟨g1, 0, none⟩)]) #[.agg #[.int .i64 ((gx arcs p).1), .int .i64 ((gx arcs p).2)], .pointer (some ⟨g1, 0, none⟩)] (by kernel_rfl) Try.func63 (by kernel_rfl) (by kernel_rfl) (by kernel_rfl)) ?_
        refine (node_calls b ((gx arcs p).1) ((gx arcs p).2) g1 _ (HS.cell (i := 4) (j := 0) rfl rfl)).mono ?_
        rintro e W36 ⟨rfl, H_⟩
        refine ⟨_, rfl, ?_⟩
        replace HS : St W (owns []) W36 [blk g33 [.int .i64 ((gx arcs p).1), .int .i64 ((gx arcs p).2)] 35, row (some ⟨g26, 0, none⟩) arcs.length arcs.length (ci .i32 os) 21 1, row (some ⟨gat, 0, none⟩) (N + 1) c24 (ci .i32 as_) 21 1, row (some ⟨g3, 0, none⟩) (N + 1) (N + 1) (ci .i32 (bl N (keys b arcs))) 21 1, blk g1 [.bool b] 4] := HS.join (F := []) (G := []) H_
        clear H_
        refine ql (.int .i64 (key b (gx arcs p))) (by kernel_rfl) (by kernel_rfl) ?_
        refine wpList_nil ?_
        refine x_then ?_
        refine wp_seq ?_
        refine wp_region_lit ?_
        refine ql (.slice (some ⟨g26, 0, none⟩) arcs.length arcs.length) (by kernel_rfl) (by kernel_rfl) ?_
        refine ql (.slice (some ⟨gat, 0, none⟩) (N + 1) c24) (by kernel_rfl) (by kernel_rfl) ?_
        refine ql (.int .i64 (key b (gx arcs p))) (by kernel_rfl) (by kernel_rfl) ?_
        refine ql (.pointer (some ⟨gat, (key b (gx arcs p)).toNat, none⟩)) (by kernel_rfl) (R_index1 (k := .i64) (g := gat) (n := (N + 1)) (c := c24) (i := key b (gx arcs p)) (by kernel_rfl) (by kernel_rfl) Try.underlying67 (by kernel_rfl) (by omega) (by omega)) ?_
        refine ql (.int .i32 (rdI as_ (key b (gx arcs p)))) (by kernel_rfl) (R_load (p := ⟨gat, (key b (gx arcs p)).toNat, none⟩) (by kernel_rfl) (by kernel_rfl) (by kernel_rfl) (HS.rcell (i := 2) rfl (ci_rd (by omega) (by omega)))) ?_
        refine ql (.int .i64 p) (by kernel_rfl) (by kernel_rfl) ?_
        refine ql (.int .i32 p) (by kernel_rfl) (R_int (by kernel_rfl) (w32 (by omega))) ?_
        refine ql (.pointer (some ⟨g26, (rdI as_ (key b (gx arcs p))).toNat, none⟩)) (by kernel_rfl) (R_index1 (k := .i32) (g := g26) (n := arcs.length) (c := arcs.length) (i := rdI as_ (key b (gx arcs p))) (by kernel_rfl) (by kernel_rfl) Try.underlying67 (by kernel_rfl) (by omega) (by omega)) ?_
        refine kr (v := .int .i32 p) HS 1 rfl ((rdI as_ (key b (gx arcs p))).toNat) [.int .i32 p] (by kernel_rfl) (by kernel_rfl) (by kernel_rfl) (by kernel_rfl) (by kernel_rfl) (one_ (by kernel_rfl)) (by rw [ci_len]; first | omega | (simp only [List.length_singleton]; omega)) rfl ?_
        intro W37 H_
        obtain ⟨xs38, xs38_⟩ : ∃ z_ : List Int, z_ = (os).set (rdI as_ (key b (gx arcs p))).toNat p := ⟨_, rfl⟩
        replace HS : St W (owns []) W37 [blk g33 [.int .i64 ((gx arcs p).1), .int .i64 ((gx arcs p).2)] 35, row (some ⟨g26, 0, none⟩) arcs.length arcs.length (ci .i32 xs38) 21 1, row (some ⟨gat, 0, none⟩) (N + 1) c24 (ci .i32 as_) 21 1, row (some ⟨g3, 0, none⟩) (N + 1) (N + 1) (ci .i32 (bl N (keys b arcs))) 21 1, blk g1 [.bool b] 4] := H_.cast_ (by rw [xs38_, ← ci_set]; rfl)
        clear H_
        have xs38l : xs38.length = arcs.length := by rw [xs38_, List.length_set]; first | done | omega
        refine wpList_nil ?_
        refine x_then ?_
        refine wp_region_lit ?_
        refine ql (.slice (some ⟨gat, 0, none⟩) (N + 1) c24) (by kernel_rfl) (by kernel_rfl) ?_
        refine ql (.int .i64 (key b (gx arcs p))) (by kernel_rfl) (by kernel_rfl) ?_
        refine ql (.pointer (some ⟨gat, (key b (gx arcs p)).toNat, none⟩)) (by kernel_rfl) (R_index1 (k := .i64) (g := gat) (n := (N + 1)) (c := c24) (i := key b (gx arcs p)) (by kernel_rfl) (by kernel_rfl) Try.underlying67 (by kernel_rfl) (by omega) (by omega)) ?_
        refine ql (.int .i32 (rdI as_ (key b (gx arcs p)))) (by kernel_rfl) (R_load (p := ⟨gat, (key b (gx arcs p)).toNat, none⟩) (by kernel_rfl) (by kernel_rfl) (by kernel_rfl) (HS.rcell (i := 2) rfl (ci_rd (by omega) (by omega)))) ?_
        refine ql (.int .i32 ((rdI as_ (key b (gx arcs p))) + 1)) (by kernel_rfl) (R_int (by kernel_rfl) (w32 (by omega))) ?_
        refine ql (.pointer (some ⟨gat, (key b (gx arcs p)).toNat, none⟩)) (by kernel_rfl) (R_index1 (k := .i64) (g := gat) (n := (N + 1)) (c := c24) (i := key b (gx arcs p)) (by kernel_rfl) (by kernel_rfl) Try.underlying67 (by kernel_rfl) (by omega) (by omega)) ?_
        refine kr (v := .int .i32 ((rdI as_ (key b (gx arcs p))) + 1)) HS 2 rfl ((key b (gx arcs p)).toNat) [.int .i32 ((rdI as_ (key b (gx arcs p))) + 1)] (by kernel_rfl) (by kernel_rfl) (by kernel_rfl) (by kernel_rfl) (by kernel_rfl) (one_ (by kernel_rfl)) (by rw [ci_len]; first | omega | (simp only [List.length_singleton]; omega)) rfl ?_
        intro W39 H_
        obtain ⟨xs40, xs40_⟩ : ∃ z_ : List Int, z_ = (as_).set (key b (gx arcs p)).toNat ((rdI as_ (key b (gx arcs p))) + 1) := ⟨_, rfl⟩
        replace HS : St W (owns []) W39 [blk g33 [.int .i64 ((gx arcs p).1), .int .i64 ((gx arcs p).2)] 35, row (some ⟨g26, 0, none⟩) arcs.length arcs.length (ci .i32 xs38) 21 1, row (some ⟨gat, 0, none⟩) (N + 1) c24 (ci .i32 xs40) 21 1, row (some ⟨g3, 0, none⟩) (N + 1) (N + 1) (ci .i32 (bl N (keys b arcs))) 21 1, blk g1 [.bool b] 4] := H_.cast_ (by rw [xs40_, ← ci_set]; rfl)
        clear H_
        have xs40l : xs40.length = N + 1 := by rw [xs40_, List.length_set]; first | done | omega
        refine wpList_nil ?_
        refine x_inb ?_
        refine x_then ?_
        refine wp_region_lit ?_
        refine ql (.int .i64 (p + 1)) (by kernel_rfl) (R_int (by kernel_rfl) (w64 (by omega))) ?_
        refine ql (.int .i64 (p + 1)) (by kernel_rfl) (by kernel_rfl) ?_
        refine wpList_nil ?_
        replace HS := HS.drop1
        have e1 : xs40 = ba N (keys b arcs) (p + 1).toNat := by rw [xs40_, ha, show (p + 1).toNat = p.toNat + 1 by omega]; exact ba_step kg kf.1 kf.2
        have e2 : Laid (keys b arcs) arcs.length (p + 1).toNat xs38 := laid_next ho (keys_len b arcs) hm h0 kg r1 xs38_
        refine x_then ?_
        exact ⟨arcs.length - (p + 1).toNat, by omega, (fun k_ : Nat => List.getD ((.int .i64 (N : Int)) :: (.slice (some ad32) arcs.length c) :: (.bool b) :: undef :: undef :: (.pointer (some ⟨g1, 0, none⟩)) :: (.slice none 0 0) :: (.slice none 0 0) :: (.func (.func 63) #[] #[.pointer (some ⟨g1, 0, none⟩)]) :: (.slice (some ⟨g3, 0, none⟩) (N + 1) (N + 1)) :: undef :: ((J5 11)) :: ((J16 12)) :: (.slice (some ⟨gat, 0, none⟩) (N + 1) c24) :: (.slice (some ⟨g26, 0, none⟩) arcs.length arcs.length) :: (.int .i64 p) :: (.pointer (some ⟨g33, 0, none⟩)) :: (.int .i64 (key b (gx arcs p))) :: (.func (.func 63) #[] #[.pointer (some ⟨g1, 0, none⟩)]) :: (.int .i64 (N : Int)) :: (.int .i64 ((N : Int) + 1)) :: (.slice (some ⟨g3, 0, none⟩) (N + 1) (N + 1)) :: (.slice (some ad32) arcs.length c) :: (.int .i64 (arcs.length : Int)) :: (.int .i64 i) :: (.bool false) :: ((J5 26)) :: ((J5 27)) :: ((J5 28)) :: ((J5 29)) :: ((J5 30)) :: ((J5 31)) :: ((J5 32)) :: ((J5 33)) :: ((J5 34)) :: ((J5 35)) :: ((J5 36)) :: ((J5 37)) :: (.int .i64 (N : Int)) :: (.int .i64 k) :: (.bool false) :: ((J16 41)) :: ((J16 42)) :: ((J16 43)) :: ((J16 44)) :: ((J16 45)) :: ((J16 46)) :: ((J16 47)) :: ((J16 48)) :: ((J16 49)) :: ((J16 50)) :: ((J16 51)) :: ((J16 52)) :: ((J16 53)) :: (.slice (some ⟨g3, 0, none⟩) (N + 1) (N + 1)) :: (.slice (some ⟨gat, 0, none⟩) (N + 1) c24) :: (.slice (some ad32) arcs.length c) :: (.int .i64 (arcs.length : Int)) :: (.slice (some ⟨g26, 0, none⟩) arcs.length arcs.length) :: (.slice (some ad32) arcs.length c) :: (.int .i64 (arcs.length : Int)) :: (.int .i64 (p + 1)) :: (.bool true) :: (.int .i64 p) :: (.pointer (some (ad32.add (p.toNat * 2)))) :: (.agg #[.int .i64 ((gx arcs p).1), .int .i64 ((gx arcs p).2)]) :: (.func (.func 63) #[] #[.pointer (some ⟨g1, 0, none⟩)]) :: (.agg #[.int .i64 ((gx arcs p).1), .int .i64 ((gx arcs p).2)]) :: (.int .i64 (key b (gx arcs p))) :: (.slice (some ⟨g26, 0, none⟩) arcs.length arcs.length) :: (.slice (some ⟨gat, 0, none⟩) (N + 1) c24) :: (.int .i64 (key b (gx arcs p))) :: (.pointer (some ⟨gat, (key b (gx arcs p)).toNat, none⟩)) :: (.int .i32 (rdI as_ (key b (gx arcs p)))) :: (.int .i64 p) :: (.int .i32 p) :: (.pointer (some ⟨g26, (rdI as_ (key b (gx arcs p))).toNat, none⟩)) :: (.slice (some ⟨gat, 0, none⟩) (N + 1) c24) :: (.int .i64 (key b (gx arcs p))) :: (.pointer (some ⟨gat, (key b (gx arcs p)).toNat, none⟩)) :: (.int .i32 (rdI as_ (key b (gx arcs p)))) :: (.int .i32 ((rdI as_ (key b (gx arcs p))) + 1)) :: (.pointer (some ⟨gat, (key b (gx arcs p)).toNat, none⟩)) :: (.int .i64 (p + 1)) :: undef :: undef :: []) k_ undef), p + 1, xs38, xs40, congrArg Fr (by kernel_rfl), rfl, by omega, by omega, e1, e2, HS⟩
      · skip
        refine ql (.bool false) (by kernel_rfl) (R_nbool (p := p < (arcs.length : Int)) (by kernel_rfl) (hc31)) ?_
        refine wpList_nil ?_
        refine x_then ?_
        refine wp_seq ?_
        refine wp_cond_false (by kernel_rfl) ?_
        refine wp_exit ?_
        refine x_thenE ?_
        refine x_thenE ?_
        refine x_hit ?_
        refine x_then ?_
        refine wp_seq ?_
        refine wp_region_lit ?_
        refine ql (.slice (some ⟨g26, 0, none⟩) arcs.length arcs.length) (by kernel_rfl) (by kernel_rfl) ?_
        refine ql (.slice (some ⟨g3, 0, none⟩) (N + 1) (N + 1)) (by kernel_rfl) (by kernel_rfl) ?_
        refine ql (.slice (some ⟨g26, 0, none⟩) arcs.length arcs.length) (by kernel_rfl) (by kernel_rfl) ?_
        refine ql (.slice (some ⟨g3, 0, none⟩) (N + 1) (N + 1)) (by kernel_rfl) (by kernel_rfl) ?_
        refine wpList_nil ?_
        refine x_then ?_
        refine wp_ret ?_
        refine ret_ (.tuple #[.slice (some ⟨g26, 0, none⟩) arcs.length arcs.length, .slice (some ⟨g3, 0, none⟩) (N + 1) (N + 1)]) (by kernel_rfl) ?_
        replace HS : St W (owns []) W30 [row (some ⟨g26, 0, none⟩) arcs.length arcs.length (ci .i32 os) 21 1, row (some ⟨g3, 0, none⟩) (N + 1) (N + 1) (ci .i32 (bl N (keys b arcs))) 21 1] := St.tail (F := [row (some ⟨gat, 0, none⟩) (N + 1) c24 (ci .i32 as_) 21 1, blk g1 [.bool b] 4]) (HS.perm (perm_ [1, 3, 0, 2] (by kernel_rfl) rfl))
        have ho2 : Laid (keys b arcs) arcs.length (keys b arcs).length os := by rw [keys_len]; rwa [show p.toNat = arcs.length by omega] at ho
        exact ⟨_, _, _, _, os, rfl, HS, ho2⟩

/-- A graph in memory. -/
def GAt (W : World) (g N : Nat) (arcs : List (Int × Int)) : Prop := ∃ A1 c1 A2 c2 A3 c3 A4 c4 A5 c5 os js,
  W.heap[g]? = some (.cells #[.int .i64 (N : Int), .slice A1 arcs.length c1, .slice A2 arcs.length c2, .slice A3 arcs.length c3, .slice A4 (N + 1) c4, .slice A5 (N + 1) c5] 69 (0, 0)) ∧
  Rd W A1 (cf arcC arcs) ∧ Rd W A2 (ci .i32 os) ∧ Rd W A3 (ci .i32 js) ∧ Rd W A4 (ci .i32 (bl N (keys false arcs))) ∧ Rd W A5 (ci .i32 (bl N (keys true arcs))) ∧
  Laid (keys false arcs) arcs.length (keys false arcs).length os ∧ Laid (keys true arcs) arcs.length (keys true arcs).length js ∧ Fine N arcs ∧ N ≤ 1048576 ∧ arcs.length ≤ 67108864 ∧ arcs.length ≤ c2 ∧ arcs.length ≤ c3 ∧ N + 1 ≤ c4 ∧ N + 1 ≤ c5
theorem GAt.below {W W' : World} {g N : Nat} {arcs : List (Int × Int)} (h : GAt W g N arcs) (hb : Below W.heap.size W W') : GAt W' g N arcs := by
  obtain ⟨A1, c1, A2, c2, A3, c3, A4, c4, A5, c5, os, js, hB, h1, h2, h3, h4, h5, rest⟩ := h
  exact ⟨A1, c1, A2, c2, A3, c3, A4, c4, A5, c5, os, js, (hb.block g (Array.getElem?_eq_some_iff.1 hB).1).trans hB, h1.below hb, h2.below hb, h3.below hb, h4.below hb, h5.below hb, rest⟩

set_option maxRecDepth 100000 in
set_option maxHeartbeats 1000000 in
theorem nodesnil (W : World) : Calls Try.prog 17 #[.pointer none] W fun e W' => e = .returned (.int .i64 0) ∧ St W (owns []) W' [] := by
  have HS : St W (owns []) W [] := St.start W _
  refine calls_enter [.pointer none, undef, undef, undef, undef, undef, undef, undef, undef] Try.func17 rfl (by kernel_rfl) ?_
  refine wp_seq ?_
  refine wp_region_lit ?_
  refine ql (.int .i64 0) (by kernel_rfl) (by kernel_rfl) ?_
  refine wpList_nil ?_
  refine x_then ?_
  refine wp_seq ?_
  refine wp_seq ?_
  refine wp_region_lit ?_
  refine ql (.pointer none) (by kernel_rfl) (by kernel_rfl) ?_
  refine ql (.bool true) (by kernel_rfl) (by kernel_rfl) ?_
  refine wpList_nil ?_
  refine x_then ?_
  refine wp_cond_true (by kernel_rfl) ?_
  refine wp_seq ?_
  refine wp_region_lit ?_
  refine ql (.int .i64 0) (by kernel_rfl) (by kernel_rfl) ?_
  refine wpList_nil ?_
  refine x_then ?_
  refine wp_ret ?_
  refine x_thenR ?_
  refine ret_ (.int .i64 0) (by kernel_rfl) ?_
  exact ⟨rfl, HS⟩

set_option maxRecDepth 100000 in
set_option maxHeartbeats 1000000 in
theorem nodessome (g N : Nat) (arcs : List (Int × Int)) (W : World) (hG : GAt W g N arcs) : Calls Try.prog 17 #[.pointer (some ⟨g, 0, none⟩)] W fun e W' => e = .returned (.int .i64 (N : Int)) ∧ St W (owns []) W' [] := by
  have HS : St W (owns []) W [] := St.start W _
  obtain ⟨A1, c1, A2, c2, A3, c3, A4, c4, A5, c5, os, js, hB, r1, r2, r3, r4, r5, l1, l2, hF, hN, hm, k2, k3, k4, k5⟩ := hG
  have b1 := bl_len N (keys false arcs)
  have b2 := bl_len N (keys true arcs)
  refine calls_enter [.pointer (some ⟨g, 0, none⟩), undef, undef, undef, undef, undef, undef, undef, undef] Try.func17 rfl (by kernel_rfl) ?_
  refine wp_seq ?_
  refine wp_region_lit ?_
  refine ql (.int .i64 0) (by kernel_rfl) (by kernel_rfl) ?_
  refine wpList_nil ?_
  refine x_then ?_
  refine wp_seq ?_
  refine wp_seq ?_
  refine wp_region_lit ?_
  refine ql (.pointer (some ⟨g, 0, none⟩)) (by kernel_rfl) (by kernel_rfl) ?_
  refine ql (.bool false) (by kernel_rfl) (by kernel_rfl) ?_
  refine wpList_nil ?_
  refine x_then ?_
  refine wp_cond_false (by kernel_rfl) ?_
  refine wp_skip ?_
  refine x_then ?_
  refine wp_seq ?_
  refine wp_region_lit ?_
  refine ql (.pointer (some ⟨g, 0, none⟩)) (by kernel_rfl) (by kernel_rfl) ?_
  refine ql (.pointer (some ⟨g, 0, none⟩)) (by kernel_rfl) (by kernel_rfl) ?_
  refine ql (.pointer (some ⟨g, 0, none⟩)) (by kernel_rfl) (by kernel_rfl) ?_
  refine ql (.int .i64 (N : Int)) (by kernel_rfl) (R_load (p := ⟨g, 0, none⟩) (by kernel_rfl) (by kernel_rfl) (by kernel_rfl) (HS.old0 (cell_at (j := 0) hB rfl))) ?_
  refine ql (.int .i64 (N : Int)) (by kernel_rfl) (by kernel_rfl) ?_
  refine wpList_nil ?_
  refine x_then ?_
  refine wp_ret ?_
  refine ret_ (.int .i64 (N : Int)) (by kernel_rfl) ?_
  exact ⟨rfl, HS⟩

set_option maxRecDepth 100000 in
set_option maxHeartbeats 1000000 in
theorem arcs_some (g N : Nat) (arcs : List (Int × Int)) (W : World) (hG : GAt W g N arcs) : Calls Try.prog 18 #[.pointer (some ⟨g, 0, none⟩)] W fun e W' => e = .returned (.int .i64 (arcs.length : Int)) ∧ St W (owns []) W' [] := by
  have HS : St W (owns []) W [] := St.start W _
  obtain ⟨A1, c1, A2, c2, A3, c3, A4, c4, A5, c5, os, js, hB, r1, r2, r3, r4, r5, l1, l2, hF, hN, hm, k2, k3, k4, k5⟩ := hG
  have b1 := bl_len N (keys false arcs)
  have b2 := bl_len N (keys true arcs)
  refine calls_enter [.pointer (some ⟨g, 0, none⟩), undef, undef, undef, undef, undef, undef, undef, undef, undef] Try.func18 rfl (by kernel_rfl) ?_
  refine wp_seq ?_
  refine wp_region_lit ?_
  refine ql (.int .i64 0) (by kernel_rfl) (by kernel_rfl) ?_
  refine wpList_nil ?_
  refine x_then ?_
  refine wp_seq ?_
  refine wp_seq ?_
  refine wp_region_lit ?_
  refine ql (.pointer (some ⟨g, 0, none⟩)) (by kernel_rfl) (by kernel_rfl) ?_
  refine ql (.bool false) (by kernel_rfl) (by kernel_rfl) ?_
  refine wpList_nil ?_
  refine x_then ?_
  refine wp_cond_false (by kernel_rfl) ?_
  refine wp_skip ?_
  refine x_then ?_
  refine wp_seq ?_
  refine wp_region_lit ?_
  refine ql (.pointer (some ⟨g, 0, none⟩)) (by kernel_rfl) (by kernel_rfl) ?_
  refine ql (.pointer (some ⟨g, 0, none⟩)) (by kernel_rfl) (by kernel_rfl) ?_
  refine ql (.pointer (some ⟨g, 1, none⟩)) (by kernel_rfl) (by kernel_rfl) ?_
  refine ql (.slice A1 arcs.length c1) (by kernel_rfl) (R_load (p := ⟨g, 1, none⟩) (by kernel_rfl) (by kernel_rfl) (by kernel_rfl) (HS.old0 (cell_at (j := 1) hB rfl))) ?_
  refine ql (.int .i64 (arcs.length : Int)) (by kernel_rfl) (by kernel_rfl) ?_
  refine ql (.int .i64 (arcs.length : Int)) (by kernel_rfl) (by kernel_rfl) ?_
  refine wpList_nil ?_
  refine x_then ?_
  refine wp_ret ?_
  refine ret_ (.int .i64 (arcs.length : Int)) (by kernel_rfl) ?_
  exact ⟨rfl, HS⟩

set_option maxRecDepth 100000 in
set_option maxHeartbeats 1000000 in
theorem arc_some (g N : Nat) (arcs : List (Int × Int)) (W : World) (hG : GAt W g N arcs) (i : Int) : Calls Try.prog 22 #[.pointer (some ⟨g, 0, none⟩), .int .i64 i] W fun e W' => (0 ≤ i ∧ i < arcs.length ∧ e = .returned (.tuple #[.agg #[.int .i64 (gx arcs i).1, .int .i64 (gx arcs i).2], .bool true]) ∧ St W (owns []) W' []) ∨ (¬ (0 ≤ i ∧ i < arcs.length) ∧ e = .returned (.tuple #[.agg #[.int .i64 0, .int .i64 0], .bool false]) ∧ St W (owns []) W' []) := by
  have HS : St W (owns []) W [] := St.start W _
  have hG_ := hG
  obtain ⟨A1, c1, A2, c2, A3, c3, A4, c4, A5, c5, os, js, hB, r1, r2, r3, r4, r5, l1, l2, hF, hN, hm, k2, k3, k4, k5⟩ := hG_
  refine calls_enter [.pointer (some ⟨g, 0, none⟩), .int .i64 i, undef, undef, undef, undef, undef, undef, undef, undef, undef, undef, undef, undef, undef, undef, undef, undef, undef, undef, undef, undef] Try.func22 rfl (by kernel_rfl) ?_
  refine wp_seq ?_
  refine wp_region_lit ?_
  refine kb HS [.int .i64 0, .int .i64 0] 35 (fun g => .pointer (some ⟨g, 0, none⟩)) (by kernel_rfl) (by kernel_rfl) ?_
  intro g1 W2 H_
  replace HS : St W (owns []) W2 [blk g1 [.int .i64 0, .int .i64 0] 35] := H_
  clear H_
  refine ql (.bool false) (by kernel_rfl) (by kernel_rfl) ?_
  refine wpList_nil ?_
  refine x_then ?_
  refine wp_seq ?_
  refine wp_seq ?_
  refine wp_region_lit ?_
  refine ql (.int .i64 i) (by kernel_rfl) (by kernel_rfl) ?_
  by_cases hc3 : i < (0 : Int)
  · skip
    refine ql (.bool true) (by kernel_rfl) (R_bool (p := i < (0 : Int)) (by kernel_rfl) (hc3)) ?_
    refine ql (.bool true) (by kernel_rfl) (by kernel_rfl) ?_
    refine qln (by kernel_rfl) ?_
    refine qln (by kernel_rfl) ?_
    refine qln (by kernel_rfl) ?_
    refine qln (by kernel_rfl) ?_
    refine ql (.bool true) (by kernel_rfl) (by kernel_rfl) ?_
    refine wpList_nil ?_
    refine x_then ?_
    refine wp_cond_true (by kernel_rfl) ?_
    refine wp_seq ?_
    refine wp_region_lit ?_
    refine ql (.agg #[.int .i64 0, .int .i64 0]) (by kernel_rfl) (by kernel_rfl) ?_
    refine ks (v := .agg #[.int .i64 0, .int .i64 0]) HS 0 rfl (0) [.int .i64 0, .int .i64 0] (by kernel_rfl) (by kernel_rfl) (by kernel_rfl) (by kernel_rfl) (by kernel_rfl) (one_ (by kernel_rfl)) (Nat.le_of_ble_eq_true rfl) rfl ?_
    intro W4 H_
    replace HS : St W (owns []) W4 [blk g1 [.int .i64 0, .int .i64 0] 35] := H_
    clear H_
    refine ql (.bool false) (by kernel_rfl) (by kernel_rfl) ?_
    refine wpList_nil ?_
    refine x_then ?_
    refine wp_ret ?_
    refine x_thenR ?_
    refine ret_ (.tuple #[.agg #[.int .i64 0, .int .i64 0], .bool false]) (res2 rfl (oneRes_agg (p := ⟨g1, 0, none⟩) [.int .i64 0, .int .i64 0] (by kernel_rfl) (by kernel_rfl) (by kernel_rfl) (by kernel_rfl) (HS.cellsN (i := 0) rfl)) (oneRes_t (by kernel_rfl))) ?_
    exact .inr ⟨by omega, rfl, HS.tail (F := [blk g1 [.int .i64 0, .int .i64 0] 35])⟩
  · skip
    refine ql (.bool false) (by kernel_rfl) (R_nbool (p := i < (0 : Int)) (by kernel_rfl) (hc3)) ?_
    refine ql (.bool false) (by kernel_rfl) (by kernel_rfl) ?_
    refine ql (.int .i64 i) (by kernel_rfl) (by kernel_rfl) ?_
    refine ql (.pointer (some ⟨g, 0, none⟩)) (by kernel_rfl) (by kernel_rfl) ?_
    refine qc (f := 18) (args := #[.pointer (some ⟨g, 0, none⟩)]) (by kernel_rfl) (R_call #[.pointer (some ⟨g, 0, none⟩)] Try.func18 (by kernel_rfl) (by kernel_rfl) (by kernel_rfl)) ?_
    refine (arcs_some g N arcs _ (hG.below (HS.kept.below owns_nil))).mono ?_
    rintro e W5 ⟨rfl, H_⟩
    refine ⟨_, rfl, ?_⟩
    replace HS : St W (owns []) W5 [blk g1 [.int .i64 0, .int .i64 0] 35] := HS.join (F := []) (G := []) H_
    clear H_
    by_cases hc6 : i ≥ (arcs.length : Int)
    · skip
      refine ql (.bool true) (by kernel_rfl) (R_bool (p := i ≥ (arcs.length : Int)) (by kernel_rfl) (hc6)) ?_
      refine ql (.bool true) (by kernel_rfl) (by kernel_rfl) ?_
      refine wpList_nil ?_
      refine x_then ?_
      refine wp_cond_true (by kernel_rfl) ?_
      refine wp_seq ?_
      refine wp_region_lit ?_
      refine ql (.agg #[.int .i64 0, .int .i64 0]) (by kernel_rfl) (by kernel_rfl) ?_
      refine ks (v := .agg #[.int .i64 0, .int .i64 0]) HS 0 rfl (0) [.int .i64 0, .int .i64 0] (by kernel_rfl) (by kernel_rfl) (by kernel_rfl) (by kernel_rfl) (by kernel_rfl) (one_ (by kernel_rfl)) (Nat.le_of_ble_eq_true rfl) rfl ?_
      intro W7 H_
      replace HS : St W (owns []) W7 [blk g1 [.int .i64 0, .int .i64 0] 35] := H_
      clear H_
      refine ql (.bool false) (by kernel_rfl) (by kernel_rfl) ?_
      refine wpList_nil ?_
      refine x_then ?_
      refine wp_ret ?_
      refine x_thenR ?_
      refine ret_ (.tuple #[.agg #[.int .i64 0, .int .i64 0], .bool false]) (res2 rfl (oneRes_agg (p := ⟨g1, 0, none⟩) [.int .i64 0, .int .i64 0] (by kernel_rfl) (by kernel_rfl) (by kernel_rfl) (by kernel_rfl) (HS.cellsN (i := 0) rfl)) (oneRes_t (by kernel_rfl))) ?_
      exact .inr ⟨by omega, rfl, HS.tail (F := [blk g1 [.int .i64 0, .int .i64 0] 35])⟩
    · skip
      refine ql (.bool false) (by kernel_rfl) (R_nbool (p := i ≥ (arcs.length : Int)) (by kernel_rfl) (hc6)) ?_
      refine ql (.bool false) (by kernel_rfl) (by kernel_rfl) ?_
      refine wpList_nil ?_
      refine x_then ?_
      refine wp_cond_false (by kernel_rfl) ?_
      refine wp_skip ?_
      refine x_then ?_
      refine wp_seq ?_
      refine wp_region_lit ?_
      refine ql (.pointer (some ⟨g, 0, none⟩)) (by kernel_rfl) (by kernel_rfl) ?_
      refine ql (.pointer (some ⟨g, 0, none⟩)) (by kernel_rfl) (by kernel_rfl) ?_
      refine ql (.pointer (some ⟨g, 1, none⟩)) (by kernel_rfl) (by kernel_rfl) ?_
      refine ql (.slice A1 arcs.length c1) (by kernel_rfl) (R_load (p := ⟨g, 1, none⟩) (by kernel_rfl) (by kernel_rfl) (by kernel_rfl) (HS.old0 (cell_at (j := 1) hB rfl))) ?_
      refine ql (.int .i64 i) (by kernel_rfl) (by kernel_rfl) ?_
      obtain ⟨ad8, rfl⟩ := Rd.isSome_ r1 (by rw [cf_len (z := 2) (fun _ => rfl)]; omega)
      refine ql (.pointer (some (ad8.add (i.toNat * 2)))) (by kernel_rfl) (R_indexA (k := .i64) (p := ad8) (n := arcs.length) (c := c1) (i := i) (by kernel_rfl) (by kernel_rfl) Try.underlying65 (by kernel_rfl) (by omega) (by omega)) ?_
      refine ql (.agg #[.int .i64 ((gx arcs i).1), .int .i64 ((gx arcs i).2)]) (by kernel_rfl) (R_loadN (p := ad8.add (i.toNat * 2)) [.int .i64 ((gx arcs i).1), .int .i64 ((gx arcs i).2)] (by kernel_rfl) (by kernel_rfl) (by kernel_rfl) (by kernel_rfl) (HS.oldN (Rd.elem (f := arcC) (fun _ => rfl) r1 (gx_eq (by omega) (by omega))))) ?_
      refine ks (v := .agg #[.int .i64 ((gx arcs i).1), .int .i64 ((gx arcs i).2)]) HS 0 rfl (0) [.int .i64 ((gx arcs i).1), .int .i64 ((gx arcs i).2)] (by kernel_rfl) (by kernel_rfl) (by kernel_rfl) (by kernel_rfl) (by kernel_rfl) (one_ (by kernel_rfl)) (Nat.le_of_ble_eq_true rfl) rfl ?_
      intro W9 H_
      replace HS : St W (owns []) W9 [blk g1 [.int .i64 ((gx arcs i).1), .int .i64 ((gx arcs i).2)] 35] := H_
      clear H_
      refine ql (.bool true) (by kernel_rfl) (by kernel_rfl) ?_
      refine wpList_nil ?_
      refine x_then ?_
      refine wp_ret ?_
      refine ret_ (.tuple #[.agg #[.int .i64 ((gx arcs i).1), .int .i64 ((gx arcs i).2)], .bool true]) (res2 rfl (oneRes_agg (p := ⟨g1, 0, none⟩) [.int .i64 ((gx arcs i).1), .int .i64 ((gx arcs i).2)] (by kernel_rfl) (by kernel_rfl) (by kernel_rfl) (by kernel_rfl) (HS.cellsN (i := 0) rfl)) (oneRes_t (by kernel_rfl))) ?_
      exact .inl ⟨by omega, by omega, rfl, HS.tail (F := [blk g1 [.int .i64 ((gx arcs i).1), .int .i64 ((gx arcs i).2)] 35])⟩


set_option maxRecDepth 100000 in
set_option maxHeartbeats 1000000 in
theorem out_some (g N : Nat) (arcs : List (Int × Int)) (W : World) (hG : GAt W g N arcs) (v : Int) : Calls Try.prog 19 #[.pointer (some ⟨g, 0, none⟩), .int .i64 v] W fun e W' => (0 ≤ v ∧ v < N ∧ ∃ A' c', e = .returned (.slice A' (idxs (keys false arcs) v).length c') ∧ St W (owns []) W' [row A' (idxs (keys false arcs) v).length c' (ci .i64 (idxs (keys false arcs) v)) 3 1]) ∨ (¬ (0 ≤ v ∧ v < N) ∧ e = .returned (.slice none 0 0) ∧ St W (owns []) W' []) := by
  have HS : St W (owns []) W [] := St.start W _
  have hG_ := hG
  obtain ⟨A1, c1, A2, c2, A3, c3, A4, c4, A5, c5, os, js, hB, r1, r2, r3, r4, r5, l1, l2, hF, hN, hm, k2, k3, k4, k5⟩ := hG_
  have b1 := bl_len N (keys false arcs)
  have b2 := bl_len N (keys true arcs)
  refine calls_enter [.pointer (some ⟨g, 0, none⟩), .int .i64 v, undef, undef, undef, undef, undef, undef, undef, undef, undef, undef, undef, undef, undef, undef, undef, undef, undef, undef, undef, undef, undef, undef, undef, undef, undef, undef, undef, undef, undef, undef, undef, undef] Try.func19 rfl (by kernel_rfl) ?_
  refine wp_seq ?_
  refine wp_region_lit ?_
  refine ql (.slice none 0 0) (by kernel_rfl) (by kernel_rfl) ?_
  refine wpList_nil ?_
  refine x_then ?_
  refine wp_seq ?_
  refine wp_seq ?_
  refine wp_region_lit ?_
  refine ql (.int .i64 v) (by kernel_rfl) (by kernel_rfl) ?_
  by_cases hc1 : v < (0 : Int)
  · skip
    refine ql (.bool true) (by kernel_rfl) (R_bool (p := v < (0 : Int)) (by kernel_rfl) (hc1)) ?_
    refine ql (.bool true) (by kernel_rfl) (by kernel_rfl) ?_
    refine qln (by kernel_rfl) ?_
    refine qln (by kernel_rfl) ?_
    refine qln (by kernel_rfl) ?_
    refine qln (by kernel_rfl) ?_
    refine ql (.bool true) (by kernel_rfl) (by kernel_rfl) ?_
    refine wpList_nil ?_
    refine x_then ?_
    refine wp_cond_true (by kernel_rfl) ?_
    refine wp_seq ?_
    refine wp_region_lit ?_
    refine ql (.slice none 0 0) (by kernel_rfl) (by kernel_rfl) ?_
    refine wpList_nil ?_
    refine x_then ?_
    refine wp_ret ?_
    refine x_thenR ?_
    refine ret_ (.slice none 0 0) (by kernel_rfl) ?_
    exact .inr ⟨by omega, rfl, HS⟩
  · skip
    refine ql (.bool false) (by kernel_rfl) (R_nbool (p := v < (0 : Int)) (by kernel_rfl) (hc1)) ?_
    refine ql (.bool false) (by kernel_rfl) (by kernel_rfl) ?_
    refine ql (.int .i64 v) (by kernel_rfl) (by kernel_rfl) ?_
    refine ql (.pointer (some ⟨g, 0, none⟩)) (by kernel_rfl) (by kernel_rfl) ?_
    refine qc (f := 17) (args := #[.pointer (some ⟨g, 0, none⟩)]) (by kernel_rfl) (R_call #[.pointer (some ⟨g, 0, none⟩)] Try.func17 (by kernel_rfl) (by kernel_rfl) (by kernel_rfl)) ?_
    refine (nodessome g N arcs _ (hG.below (HS.kept.below owns_nil))).mono ?_
    rintro e W2 ⟨rfl, H_⟩
    refine ⟨_, rfl, ?_⟩
    replace HS : St W (owns []) W2 [] := HS.join (F := []) (G := []) H_
    clear H_
    by_cases hc3 : v ≥ (N : Int)
    · skip
      refine ql (.bool true) (by kernel_rfl) (R_bool (p := v ≥ (N : Int)) (by kernel_rfl) (hc3)) ?_
      refine ql (.bool true) (by kernel_rfl) (by kernel_rfl) ?_
      refine wpList_nil ?_
      refine x_then ?_
      refine wp_cond_true (by kernel_rfl) ?_
      refine wp_seq ?_
      refine wp_region_lit ?_
      refine ql (.slice none 0 0) (by kernel_rfl) (by kernel_rfl) ?_
      refine wpList_nil ?_
      refine x_then ?_
      refine wp_ret ?_
      refine x_thenR ?_
      refine ret_ (.slice none 0 0) (by kernel_rfl) ?_
      exact .inr ⟨by omega, rfl, HS⟩
    · skip
      refine ql (.bool false) (by kernel_rfl) (R_nbool (p := v ≥ (N : Int)) (by kernel_rfl) (hc3)) ?_
      refine ql (.bool false) (by kernel_rfl) (by kernel_rfl) ?_
      refine wpList_nil ?_
      refine x_then ?_
      refine wp_cond_false (by kernel_rfl) ?_
      refine wp_skip ?_
      refine x_then ?_
      refine wp_seq ?_
      refine rg_still HS 20 (by kernel_rfl) (by kernel_rfl) ?_
      intro W4 H_ HK_
      simp only [List.take_succ_cons, List.take_zero, List.drop_succ_cons, List.drop_zero]
      replace HS : St W (owns []) W4 [] := H_
      clear H_
      clear HK_
      refine qs (.pointer (some ⟨g, 0, none⟩)) (by kernel_rfl) (by kernel_rfl) ?_
      refine qs (.pointer (some ⟨g, 0, none⟩)) (by kernel_rfl) (by kernel_rfl) ?_
      refine qs (.pointer (some ⟨g, 2, none⟩)) (by kernel_rfl) (by kernel_rfl) ?_
      refine qs (.slice A2 arcs.length c2) (by kernel_rfl) (R_load (p := ⟨g, 2, none⟩) (by kernel_rfl) (by kernel_rfl) (by kernel_rfl) (HS.old0 (cell_at (j := 2) hB rfl))) ?_
      refine qs (.pointer (some ⟨g, 0, none⟩)) (by kernel_rfl) (by kernel_rfl) ?_
      refine qs (.pointer (some ⟨g, 0, none⟩)) (by kernel_rfl) (by kernel_rfl) ?_
      refine qs (.pointer (some ⟨g, 4, none⟩)) (by kernel_rfl) (by kernel_rfl) ?_
      refine qs (.slice A4 (N + 1) c4) (by kernel_rfl) (R_load (p := ⟨g, 4, none⟩) (by kernel_rfl) (by kernel_rfl) (by kernel_rfl) (HS.old0 (cell_at (j := 4) hB rfl))) ?_
      refine qs (.int .i64 v) (by kernel_rfl) (by kernel_rfl) ?_
      obtain ⟨ad5, rfl⟩ := Rd.isSome_ r4 (by rw [ci_len]; omega)
      refine qs (.pointer (some (ad5.add v.toNat))) (by kernel_rfl) (R_indexA1 (k := .i64) (p := ad5) (n := (N + 1)) (c := c4) (i := v) (by kernel_rfl) (by kernel_rfl) Try.underlying67 (by kernel_rfl) (by omega) (by omega)) ?_
      refine qs (.int .i32 (rdI (bl N (keys false arcs)) v)) (by kernel_rfl) (R_load (p := ad5.add v.toNat) (by kernel_rfl) (by kernel_rfl) (by kernel_rfl) (HS.old0 (r4.at_ (ci_rd (by omega) (by omega))))) ?_
      refine qs (.pointer (some ⟨g, 0, none⟩)) (by kernel_rfl) (by kernel_rfl) ?_
      refine qs (.pointer (some ⟨g, 0, none⟩)) (by kernel_rfl) (by kernel_rfl) ?_
      refine qs (.pointer (some ⟨g, 4, none⟩)) (by kernel_rfl) (by kernel_rfl) ?_
      refine qs (.slice (some ad5) (N + 1) c4) (by kernel_rfl) (R_load (p := ⟨g, 4, none⟩) (by kernel_rfl) (by kernel_rfl) (by kernel_rfl) (HS.old0 (cell_at (j := 4) hB rfl))) ?_
      refine qs (.int .i64 v) (by kernel_rfl) (by kernel_rfl) ?_
      refine qs (.int .i64 (v + 1)) (by kernel_rfl) (R_int (by kernel_rfl) (w64 (by omega))) ?_
      refine qs (.pointer (some (ad5.add (v + 1).toNat))) (by kernel_rfl) (R_indexA1 (k := .i64) (p := ad5) (n := (N + 1)) (c := c4) (i := v + 1) (by kernel_rfl) (by kernel_rfl) Try.underlying67 (by kernel_rfl) (by omega) (by omega)) ?_
      refine qs (.int .i32 (rdI (bl N (keys false arcs)) (v + 1))) (by kernel_rfl) (R_load (p := ad5.add (v + 1).toNat) (by kernel_rfl) (by kernel_rfl) (by kernel_rfl) (HS.old0 (r4.at_ (ci_rd (by omega) (by omega))))) ?_
      have e1 := bl_rd (N := N) (ks := (keys false arcs)) (v := v) (by omega) (by omega)
      have e2 := bl_rd (N := N) (ks := (keys false arcs)) (v := v + 1) (by omega) (by omega)
      rw [low_succ] at e2
      have e3 := low_add (keys false arcs) v
      have e4 : (keys false arcs).length = arcs.length := keys_len _ _
      have e5 := l1.1
      have e6 := Int.natCast_add (low (keys false arcs) v) (cnt (keys false arcs) v)
      obtain ⟨B, cB, hB1, hB2⟩ := cut_rd (A := A2) (c := c2) (lo := (rdI (bl N (keys false arcs)) v).toNat) (hi := (rdI (bl N (keys false arcs)) (v + 1)).toNat) (xs := idxs (keys false arcs) v) r2 (by omega) (by omega) (by omega) (by rw [show (rdI (bl N (keys false arcs)) v).toNat = low (keys false arcs) v by omega, show (rdI (bl N (keys false arcs)) (v + 1)).toNat - low (keys false arcs) v = cnt (keys false arcs) v by omega]; exact laid_slice l1 (keys_len _ _) v)
      have hx1 : ∀ x ∈ idxs (keys false arcs) v, -2147483648 ≤ x ∧ x ≤ 2147483647 := fun x hx => by have hl := laid_slice l1 (keys_len _ _) v; rw [← hl] at hx; have := l1.2.1 x (List.mem_of_mem_drop (List.mem_of_mem_take hx)); omega
      refine qs (.slice B ((idxs (keys false arcs) v).length) cB) (by kernel_rfl) (R_eq (R_sliceLH (k := .i32) (k2 := .i32) (A := A2) (n := arcs.length) (c := c2) (i := rdI (bl N (keys false arcs)) v) (i2 := rdI (bl N (keys false arcs)) (v + 1)) (by kernel_rfl) (by kernel_rfl) (by kernel_rfl) Try.underlying67 (by kernel_rfl) (by omega) (by omega) (by omega)) hB1) ?_
      refine wpStill_nil ?_
      refine qc (f := 50) (args := #[.slice B ((idxs (keys false arcs) v).length) cB]) (by kernel_rfl) (R_call #[.slice B ((idxs (keys false arcs) v).length) cB] Try.func50 (by kernel_rfl) (by kernel_rfl) (by kernel_rfl)) ?_
      refine (ints_calls B cB _ _ (hB2.old0 HS) hx1 (by have := idxs_length (keys false arcs) v; omega)).mono ?_
      rintro e W6 ⟨A9, c9, rfl, H_⟩
      refine ⟨_, rfl, ?_⟩
      replace HS : St W (owns []) W6 [row A9 ((idxs (keys false arcs) v).length) c9 (ci .i64 (idxs (keys false arcs) v)) 3 1] := HS.join (F := []) (G := [row A9 ((idxs (keys false arcs) v).length) c9 (ci .i64 (idxs (keys false arcs) v)) 3 1]) H_
      clear H_
      refine ql (.slice A9 ((idxs (keys false arcs) v).length) c9) (by kernel_rfl) (by kernel_rfl) ?_
      refine wpList_nil ?_
      refine x_then ?_
      refine wp_ret ?_
      refine ret_ (.slice A9 ((idxs (keys false arcs) v).length) c9) (by kernel_rfl) ?_
      exact .inl ⟨by omega, by omega, _, _, rfl, HS⟩

set_option maxRecDepth 100000 in
set_option maxHeartbeats 1000000 in
theorem in_some (g N : Nat) (arcs : List (Int × Int)) (W : World) (hG : GAt W g N arcs) (v : Int) : Calls Try.prog 20 #[.pointer (some ⟨g, 0, none⟩), .int .i64 v] W fun e W' => (0 ≤ v ∧ v < N ∧ ∃ A' c', e = .returned (.slice A' (idxs (keys true arcs) v).length c') ∧ St W (owns []) W' [row A' (idxs (keys true arcs) v).length c' (ci .i64 (idxs (keys true arcs) v)) 3 1]) ∨ (¬ (0 ≤ v ∧ v < N) ∧ e = .returned (.slice none 0 0) ∧ St W (owns []) W' []) := by
  have HS : St W (owns []) W [] := St.start W _
  have hG_ := hG
  obtain ⟨A1, c1, A2, c2, A3, c3, A4, c4, A5, c5, os, js, hB, r1, r2, r3, r4, r5, l1, l2, hF, hN, hm, k2, k3, k4, k5⟩ := hG_
  have b1 := bl_len N (keys false arcs)
  have b2 := bl_len N (keys true arcs)
  refine calls_enter [.pointer (some ⟨g, 0, none⟩), .int .i64 v, undef, undef, undef, undef, undef, undef, undef, undef, undef, undef, undef, undef, undef, undef, undef, undef, undef, undef, undef, undef, undef, undef, undef, undef, undef, undef, undef, undef, undef, undef, undef, undef] Try.func20 rfl (by kernel_rfl) ?_
  refine wp_seq ?_
  refine wp_region_lit ?_
  refine ql (.slice none 0 0) (by kernel_rfl) (by kernel_rfl) ?_
  refine wpList_nil ?_
  refine x_then ?_
  refine wp_seq ?_
  refine wp_seq ?_
  refine wp_region_lit ?_
  refine ql (.int .i64 v) (by kernel_rfl) (by kernel_rfl) ?_
  by_cases hc1 : v < (0 : Int)
  · skip
    refine ql (.bool true) (by kernel_rfl) (R_bool (p := v < (0 : Int)) (by kernel_rfl) (hc1)) ?_
    refine ql (.bool true) (by kernel_rfl) (by kernel_rfl) ?_
    refine qln (by kernel_rfl) ?_
    refine qln (by kernel_rfl) ?_
    refine qln (by kernel_rfl) ?_
    refine qln (by kernel_rfl) ?_
    refine ql (.bool true) (by kernel_rfl) (by kernel_rfl) ?_
    refine wpList_nil ?_
    refine x_then ?_
    refine wp_cond_true (by kernel_rfl) ?_
    refine wp_seq ?_
    refine wp_region_lit ?_
    refine ql (.slice none 0 0) (by kernel_rfl) (by kernel_rfl) ?_
    refine wpList_nil ?_
    refine x_then ?_
    refine wp_ret ?_
    refine x_thenR ?_
    refine ret_ (.slice none 0 0) (by kernel_rfl) ?_
    exact .inr ⟨by omega, rfl, HS⟩
  · skip
    refine ql (.bool false) (by kernel_rfl) (R_nbool (p := v < (0 : Int)) (by kernel_rfl) (hc1)) ?_
    refine ql (.bool false) (by kernel_rfl) (by kernel_rfl) ?_
    refine ql (.int .i64 v) (by kernel_rfl) (by kernel_rfl) ?_
    refine ql (.pointer (some ⟨g, 0, none⟩)) (by kernel_rfl) (by kernel_rfl) ?_
    refine qc (f := 17) (args := #[.pointer (some ⟨g, 0, none⟩)]) (by kernel_rfl) (R_call #[.pointer (some ⟨g, 0, none⟩)] Try.func17 (by kernel_rfl) (by kernel_rfl) (by kernel_rfl)) ?_
    refine (nodessome g N arcs _ (hG.below (HS.kept.below owns_nil))).mono ?_
    rintro e W2 ⟨rfl, H_⟩
    refine ⟨_, rfl, ?_⟩
    replace HS : St W (owns []) W2 [] := HS.join (F := []) (G := []) H_
    clear H_
    by_cases hc3 : v ≥ (N : Int)
    · skip
      refine ql (.bool true) (by kernel_rfl) (R_bool (p := v ≥ (N : Int)) (by kernel_rfl) (hc3)) ?_
      refine ql (.bool true) (by kernel_rfl) (by kernel_rfl) ?_
      refine wpList_nil ?_
      refine x_then ?_
      refine wp_cond_true (by kernel_rfl) ?_
      refine wp_seq ?_
      refine wp_region_lit ?_
      refine ql (.slice none 0 0) (by kernel_rfl) (by kernel_rfl) ?_
      refine wpList_nil ?_
      refine x_then ?_
      refine wp_ret ?_
      refine x_thenR ?_
      refine ret_ (.slice none 0 0) (by kernel_rfl) ?_
      exact .inr ⟨by omega, rfl, HS⟩
    · skip
      refine ql (.bool false) (by kernel_rfl) (R_nbool (p := v ≥ (N : Int)) (by kernel_rfl) (hc3)) ?_
      refine ql (.bool false) (by kernel_rfl) (by kernel_rfl) ?_
      refine wpList_nil ?_
      refine x_then ?_
      refine wp_cond_false (by kernel_rfl) ?_
      refine wp_skip ?_
      refine x_then ?_
      refine wp_seq ?_
      refine rg_still HS 20 (by kernel_rfl) (by kernel_rfl) ?_
      intro W4 H_ HK_
      simp only [List.take_succ_cons, List.take_zero, List.drop_succ_cons, List.drop_zero]
      replace HS : St W (owns []) W4 [] := H_
      clear H_
      clear HK_
      refine qs (.pointer (some ⟨g, 0, none⟩)) (by kernel_rfl) (by kernel_rfl) ?_
      refine qs (.pointer (some ⟨g, 0, none⟩)) (by kernel_rfl) (by kernel_rfl) ?_
      refine qs (.pointer (some ⟨g, 3, none⟩)) (by kernel_rfl) (by kernel_rfl) ?_
      refine qs (.slice A3 arcs.length c3) (by kernel_rfl) (R_load (p := ⟨g, 3, none⟩) (by kernel_rfl) (by kernel_rfl) (by kernel_rfl) (HS.old0 (cell_at (j := 3) hB rfl))) ?_
      refine qs (.pointer (some ⟨g, 0, none⟩)) (by kernel_rfl) (by kernel_rfl) ?_
      refine qs (.pointer (some ⟨g, 0, none⟩)) (by kernel_rfl) (by kernel_rfl) ?_
      refine qs (.pointer (some ⟨g, 5, none⟩)) (by kernel_rfl) (by kernel_rfl) ?_
      refine qs (.slice A5 (N + 1) c5) (by kernel_rfl) (R_load (p := ⟨g, 5, none⟩) (by kernel_rfl) (by kernel_rfl) (by kernel_rfl) (HS.old0 (cell_at (j := 5) hB rfl))) ?_
      refine qs (.int .i64 v) (by kernel_rfl) (by kernel_rfl) ?_
      obtain ⟨ad5, rfl⟩ := Rd.isSome_ r5 (by rw [ci_len]; omega)
      refine qs (.pointer (some (ad5.add v.toNat))) (by kernel_rfl) (R_indexA1 (k := .i64) (p := ad5) (n := (N + 1)) (c := c5) (i := v) (by kernel_rfl) (by kernel_rfl) Try.underlying67 (by kernel_rfl) (by omega) (by omega)) ?_
      refine qs (.int .i32 (rdI (bl N (keys true arcs)) v)) (by kernel_rfl) (R_load (p := ad5.add v.toNat) (by kernel_rfl) (by kernel_rfl) (by kernel_rfl) (HS.old0 (r5.at_ (ci_rd (by omega) (by omega))))) ?_
      refine qs (.pointer (some ⟨g, 0, none⟩)) (by kernel_rfl) (by kernel_rfl) ?_
      refine qs (.pointer (some ⟨g, 0, none⟩)) (by kernel_rfl) (by kernel_rfl) ?_
      refine qs (.pointer (some ⟨g, 5, none⟩)) (by kernel_rfl) (by kernel_rfl) ?_
      refine qs (.slice (some ad5) (N + 1) c5) (by kernel_rfl) (R_load (p := ⟨g, 5, none⟩) (by kernel_rfl) (by kernel_rfl) (by kernel_rfl) (HS.old0 (cell_at (j := 5) hB rfl))) ?_
      refine qs (.int .i64 v) (by kernel_rfl) (by kernel_rfl) ?_
      refine qs (.int .i64 (v + 1)) (by kernel_rfl) (R_int (by kernel_rfl) (w64 (by omega))) ?_
      refine qs (.pointer (some (ad5.add (v + 1).toNat))) (by kernel_rfl) (R_indexA1 (k := .i64) (p := ad5) (n := (N + 1)) (c := c5) (i := v + 1) (by kernel_rfl) (by kernel_rfl) Try.underlying67 (by kernel_rfl) (by omega) (by omega)) ?_
      refine qs (.int .i32 (rdI (bl N (keys true arcs)) (v + 1))) (by kernel_rfl) (R_load (p := ad5.add (v + 1).toNat) (by kernel_rfl) (by kernel_rfl) (by kernel_rfl) (HS.old0 (r5.at_ (ci_rd (by omega) (by omega))))) ?_
      have e1 := bl_rd (N := N) (ks := (keys true arcs)) (v := v) (by omega) (by omega)
      have e2 := bl_rd (N := N) (ks := (keys true arcs)) (v := v + 1) (by omega) (by omega)
      rw [low_succ] at e2
      have e3 := low_add (keys true arcs) v
      have e4 : (keys true arcs).length = arcs.length := keys_len _ _
      have e5 := l2.1
      have e6 := Int.natCast_add (low (keys true arcs) v) (cnt (keys true arcs) v)
      obtain ⟨B, cB, hB1, hB2⟩ := cut_rd (A := A3) (c := c3) (lo := (rdI (bl N (keys true arcs)) v).toNat) (hi := (rdI (bl N (keys true arcs)) (v + 1)).toNat) (xs := idxs (keys true arcs) v) r3 (by omega) (by omega) (by omega) (by rw [show (rdI (bl N (keys true arcs)) v).toNat = low (keys true arcs) v by omega, show (rdI (bl N (keys true arcs)) (v + 1)).toNat - low (keys true arcs) v = cnt (keys true arcs) v by omega]; exact laid_slice l2 (keys_len _ _) v)
      have hx1 : ∀ x ∈ idxs (keys true arcs) v, -2147483648 ≤ x ∧ x ≤ 2147483647 := fun x hx => by have hl := laid_slice l2 (keys_len _ _) v; rw [← hl] at hx; have := l2.2.1 x (List.mem_of_mem_drop (List.mem_of_mem_take hx)); omega
      refine qs (.slice B ((idxs (keys true arcs) v).length) cB) (by kernel_rfl) (R_eq (R_sliceLH (k := .i32) (k2 := .i32) (A := A3) (n := arcs.length) (c := c3) (i := rdI (bl N (keys true arcs)) v) (i2 := rdI (bl N (keys true arcs)) (v + 1)) (by kernel_rfl) (by kernel_rfl) (by kernel_rfl) Try.underlying67 (by kernel_rfl) (by omega) (by omega) (by omega)) hB1) ?_
      refine wpStill_nil ?_
      refine qc (f := 50) (args := #[.slice B ((idxs (keys true arcs) v).length) cB]) (by kernel_rfl) (R_call #[.slice B ((idxs (keys true arcs) v).length) cB] Try.func50 (by kernel_rfl) (by kernel_rfl) (by kernel_rfl)) ?_
      refine (ints_calls B cB _ _ (hB2.old0 HS) hx1 (by have := idxs_length (keys true arcs) v; omega)).mono ?_
      rintro e W6 ⟨A9, c9, rfl, H_⟩
      refine ⟨_, rfl, ?_⟩
      replace HS : St W (owns []) W6 [row A9 ((idxs (keys true arcs) v).length) c9 (ci .i64 (idxs (keys true arcs) v)) 3 1] := HS.join (F := []) (G := [row A9 ((idxs (keys true arcs) v).length) c9 (ci .i64 (idxs (keys true arcs) v)) 3 1]) H_
      clear H_
      refine ql (.slice A9 ((idxs (keys true arcs) v).length) c9) (by kernel_rfl) (by kernel_rfl) ?_
      refine wpList_nil ?_
      refine x_then ?_
      refine wp_ret ?_
      refine ret_ (.slice A9 ((idxs (keys true arcs) v).length) c9) (by kernel_rfl) ?_
      exact .inl ⟨by omega, by omega, _, _, rfl, HS⟩

theorem out_yes (g N : Nat) (arcs : List (Int × Int)) (W : World) (hG : GAt W g N arcs) (v : Int) (h0 : 0 ≤ v) (h1 : v < N) : Calls Try.prog 19 #[.pointer (some ⟨g, 0, none⟩), .int .i64 v] W fun e W' => ∃ A' c', e = .returned (.slice A' (idxs (keys false arcs) v).length c') ∧ St W (owns []) W' [row A' (idxs (keys false arcs) v).length c' (ci .i64 (idxs (keys false arcs) v)) 3 1] :=
  (out_some g N arcs W hG v).mono fun e W' h => h.elim (fun ⟨_, _, x⟩ => x) (fun ⟨hn, _⟩ => absurd ⟨h0, h1⟩ hn)

def NewP (W : World) (n : Int) (arcs : List (Int × Int)) (e : Ending) (W' : World) : Prop :=
  (chk n arcs = 0 ∧ ∃ (g N : Nat), n = (N : Int) ∧ e = .returned (.tuple #[.pointer (some ⟨g, 0, none⟩), .int .i64 0]) ∧ St W (owns []) W' [] ∧ GAt W' g N arcs) ∨ (chk n arcs ≠ 0 ∧ e = .returned (.tuple #[.pointer none, .int .i64 (chk n arcs)]) ∧ St W (owns []) W' [])

set_option maxRecDepth 100000 in
set_option maxHeartbeats 1000000 in
theorem new_neg (n : Int) (A : Option Addr) (c : Nat) (arcs : List (Int × Int)) (W : World) (hr : Rd W A (cf arcC arcs)) (hl : arcs.length ≤ 1099511627776) (hn : n < 0) : Calls Try.prog 49 #[.int .i64 n, .slice A arcs.length c] W fun e W' => NewP W n arcs e W' := by
  have HS : St W (owns []) W [] := St.start W _
  refine calls_enter ((.int .i64 n) :: (.slice A arcs.length c) :: undef :: undef :: undef :: undef :: undef :: undef :: undef :: undef :: undef :: undef :: undef :: undef :: undef :: undef :: undef :: undef :: undef :: undef :: undef :: undef :: undef :: undef :: undef :: undef :: undef :: undef :: undef :: undef :: undef :: undef :: undef :: undef :: undef :: undef :: undef :: undef :: undef :: undef :: undef :: undef :: undef :: undef :: undef :: undef :: undef :: undef :: undef :: undef :: undef :: undef :: undef :: undef :: undef :: undef :: undef :: undef :: undef :: undef :: undef :: undef :: undef :: undef :: undef :: undef :: undef :: undef :: undef :: undef :: undef :: undef :: undef :: undef :: undef :: undef :: undef :: undef :: undef :: undef :: undef :: undef :: undef :: []) Try.func49 rfl (by kernel_rfl) ?_
  refine wp_seq ?_
  refine wp_region_lit ?_
  refine ql (.pointer none) (by kernel_rfl) (by kernel_rfl) ?_
  refine ql (.int .i64 0) (by kernel_rfl) (by kernel_rfl) ?_
  refine wpList_nil ?_
  refine x_then ?_
  refine wp_seq ?_
  refine wp_block ?_
  refine wp_seq ?_
  refine wp_region_lit ?_
  refine ql (.int .i64 n) (by kernel_rfl) (by kernel_rfl) ?_
  refine ql (.bool true) (by kernel_rfl) (R_bool (p := n < (0 : Int)) (by kernel_rfl) (by omega)) ?_
  refine ql (.bool true) (by kernel_rfl) (by kernel_rfl) ?_
  refine wpList_nil ?_
  refine x_then ?_
  refine wp_cond_true (by kernel_rfl) ?_
  refine wp_seq ?_
  refine wp_region_lit ?_
  refine ql (.pointer none) (by kernel_rfl) (by kernel_rfl) ?_
  refine ql (.int .i64 2) (by kernel_rfl) (by kernel_rfl) ?_
  refine wpList_nil ?_
  refine x_then ?_
  refine wp_ret ?_
  refine x_inbR ?_
  refine x_thenR ?_
  refine ret_ (.tuple #[.pointer none, .int .i64 2]) (by kernel_rfl) ?_
  exact .inr ⟨by rw [chk2 (by omega)]; decide, by rw [chk2 (by omega)], HS.tail (F := [])⟩

set_option maxRecDepth 100000 in
set_option maxHeartbeats 1000000 in
theorem new_nat (N : Nat) (A : Option Addr) (c : Nat) (arcs : List (Int × Int)) (W : World) (hr : Rd W A (cf arcC arcs)) (hl : arcs.length ≤ 1099511627776) : Calls Try.prog 49 #[.int .i64 (N : Int), .slice A arcs.length c] W fun e W' => NewP W (N : Int) arcs e W' := by
  have HS : St W (owns []) W [] := St.start W _
  refine calls_enter ((.int .i64 (N : Int)) :: (.slice A arcs.length c) :: undef :: undef :: undef :: undef :: undef :: undef :: undef :: undef :: undef :: undef :: undef :: undef :: undef :: undef :: undef :: undef :: undef :: undef :: undef :: undef :: undef :: undef :: undef :: undef :: undef :: undef :: undef :: undef :: undef :: undef :: undef :: undef :: undef :: undef :: undef :: undef :: undef :: undef :: undef :: undef :: undef :: undef :: undef :: undef :: undef :: undef :: undef :: undef :: undef :: undef :: undef :: undef :: undef :: undef :: undef :: undef :: undef :: undef :: undef :: undef :: undef :: undef :: undef :: undef :: undef :: undef :: undef :: undef :: undef :: undef :: undef :: undef :: undef :: undef :: undef :: undef :: undef :: undef :: undef :: undef :: undef :: []) Try.func49 rfl (by kernel_rfl) ?_
  refine wp_seq ?_
  refine wp_region_lit ?_
  refine ql (.pointer none) (by kernel_rfl) (by kernel_rfl) ?_
  refine ql (.int .i64 0) (by kernel_rfl) (by kernel_rfl) ?_
  refine wpList_nil ?_
  refine x_then ?_
  refine wp_seq ?_
  refine wp_block ?_
  refine wp_seq ?_
  refine wp_region_lit ?_
  refine ql (.int .i64 (N : Int)) (by kernel_rfl) (by kernel_rfl) ?_
  refine ql (.bool false) (by kernel_rfl) (R_nbool (p := (N : Int) < (0 : Int)) (by kernel_rfl) (by omega)) ?_
  refine ql (.bool false) (by kernel_rfl) (by kernel_rfl) ?_
  refine wpList_nil ?_
  refine x_then ?_
  refine wp_cond_false (by kernel_rfl) ?_
  refine wp_seq ?_
  refine wp_region_lit ?_
  refine ql (.int .i64 (N : Int)) (by kernel_rfl) (by kernel_rfl) ?_
  by_cases hc1 : (N : Int) > (1048576 : Int)
  · skip
    refine ql (.bool true) (by kernel_rfl) (R_bool (p := (N : Int) > (1048576 : Int)) (by kernel_rfl) (hc1)) ?_
    refine ql (.bool true) (by kernel_rfl) (by kernel_rfl) ?_
    refine qln (by kernel_rfl) ?_
    refine qln (by kernel_rfl) ?_
    refine qln (by kernel_rfl) ?_
    refine ql (.bool true) (by kernel_rfl) (by kernel_rfl) ?_
    refine ql (.bool true) (by kernel_rfl) (by kernel_rfl) ?_
    refine wpList_nil ?_
    refine x_then ?_
    refine wp_cond_true (by kernel_rfl) ?_
    refine wp_seq ?_
    refine wp_region_lit ?_
    refine ql (.pointer none) (by kernel_rfl) (by kernel_rfl) ?_
    refine ql (.int .i64 5) (by kernel_rfl) (by kernel_rfl) ?_
    refine wpList_nil ?_
    refine x_then ?_
    refine wp_ret ?_
    refine x_inbR ?_
    refine x_thenR ?_
    refine ret_ (.tuple #[.pointer none, .int .i64 5]) (by kernel_rfl) ?_
    exact .inr ⟨by rw [chk5 (by omega) (by omega)]; decide, by rw [chk5 (by omega) (by omega)], HS.tail (F := [])⟩
  · skip
    refine ql (.bool false) (by kernel_rfl) (R_nbool (p := (N : Int) > (1048576 : Int)) (by kernel_rfl) (hc1)) ?_
    refine ql (.bool false) (by kernel_rfl) (by kernel_rfl) ?_
    refine ql (.slice A arcs.length c) (by kernel_rfl) (by kernel_rfl) ?_
    refine ql (.int .i64 (arcs.length : Int)) (by kernel_rfl) (by kernel_rfl) ?_
    by_cases hc2 : (arcs.length : Int) > (67108864 : Int)
    · skip
      refine ql (.bool true) (by kernel_rfl) (R_bool (p := (arcs.length : Int) > (67108864 : Int)) (by kernel_rfl) (hc2)) ?_
      refine ql (.bool true) (by kernel_rfl) (by kernel_rfl) ?_
      refine ql (.bool true) (by kernel_rfl) (by kernel_rfl) ?_
      refine wpList_nil ?_
      refine x_then ?_
      refine wp_cond_true (by kernel_rfl) ?_
      refine wp_seq ?_
      refine wp_region_lit ?_
      refine ql (.pointer none) (by kernel_rfl) (by kernel_rfl) ?_
      refine ql (.int .i64 5) (by kernel_rfl) (by kernel_rfl) ?_
      refine wpList_nil ?_
      refine x_then ?_
      refine wp_ret ?_
      refine x_inbR ?_
      refine x_thenR ?_
      refine ret_ (.tuple #[.pointer none, .int .i64 5]) (by kernel_rfl) ?_
      exact .inr ⟨by rw [chk5 (by omega) (by omega)]; decide, by rw [chk5 (by omega) (by omega)], HS.tail (F := [])⟩
    · skip
      refine ql (.bool false) (by kernel_rfl) (R_nbool (p := (arcs.length : Int) > (67108864 : Int)) (by kernel_rfl) (hc2)) ?_
      refine ql (.bool false) (by kernel_rfl) (by kernel_rfl) ?_
      refine ql (.bool false) (by kernel_rfl) (by kernel_rfl) ?_
      refine wpList_nil ?_
      refine x_then ?_
      refine wp_cond_false (by kernel_rfl) ?_
      refine wp_skip ?_
      refine x_inb ?_
      refine x_then ?_
      refine wp_seq ?_
      refine wp_seq ?_
      refine wp_region_lit ?_
      refine ql (.slice A arcs.length c) (by kernel_rfl) (by kernel_rfl) ?_
      refine ql (.int .i64 (arcs.length : Int)) (by kernel_rfl) (by kernel_rfl) ?_
      refine ql (.int .i64 0) (by kernel_rfl) (by kernel_rfl) ?_
      refine wpList_nil ?_
      refine x_then ?_
      refine wp_block ?_
      refine wp_loop_ghost (fun kq a' w' => ∃ (J3 : Nat → Value) (q : Int) , a' = Fr ((.int .i64 (N : Int)) :: (.slice A arcs.length c) :: undef :: undef :: ((J3 4)) :: ((J3 5)) :: undef :: ((J3 7)) :: undef :: (.bool false) :: (.int .i64 (N : Int)) :: (.bool false) :: (.bool false) :: (.int .i64 (N : Int)) :: (.bool false) :: (.bool false) :: (.slice A arcs.length c) :: (.int .i64 (arcs.length : Int)) :: (.bool false) :: (.bool false) :: (.slice A arcs.length c) :: (.int .i64 (arcs.length : Int)) :: (.int .i64 q) :: ((J3 23)) :: ((J3 24)) :: ((J3 25)) :: ((J3 26)) :: ((J3 27)) :: ((J3 28)) :: ((J3 29)) :: ((J3 30)) :: ((J3 31)) :: ((J3 32)) :: ((J3 33)) :: ((J3 34)) :: ((J3 35)) :: ((J3 36)) :: ((J3 37)) :: ((J3 38)) :: ((J3 39)) :: ((J3 40)) :: ((J3 41)) :: ((J3 42)) :: ((J3 43)) :: ((J3 44)) :: ((J3 45)) :: ((J3 46)) :: undef :: undef :: undef :: undef :: undef :: undef :: undef :: undef :: undef :: undef :: undef :: undef :: undef :: undef :: undef :: undef :: undef :: undef :: undef :: undef :: undef :: undef :: undef :: undef :: undef :: undef :: undef :: undef :: undef :: undef :: undef :: undef :: undef :: undef :: undef :: undef :: []) ∧ kq = (arcs.length - (q).toNat) ∧ (0 ≤ q) ∧ (q ≤ arcs.length) ∧ (Fine N (arcs.take (q).toNat)) ∧ St W (owns []) w' []) (arcs.length - ((0 : Int)).toNat) ⟨(fun k_ : Nat => List.getD ((.int .i64 (N : Int)) :: (.slice A arcs.length c) :: undef :: undef :: (.pointer none) :: (.int .i64 0) :: undef :: undef :: undef :: (.bool false) :: (.int .i64 (N : Int)) :: (.bool false) :: (.bool false) :: (.int .i64 (N : Int)) :: (.bool false) :: (.bool false) :: (.slice A arcs.length c) :: (.int .i64 (arcs.length : Int)) :: (.bool false) :: (.bool false) :: (.slice A arcs.length c) :: (.int .i64 (arcs.length : Int)) :: (.int .i64 0) :: undef :: undef :: undef :: undef :: undef :: undef :: undef :: undef :: undef :: undef :: undef :: undef :: undef :: undef :: undef :: undef :: undef :: undef :: undef :: undef :: undef :: undef :: undef :: undef :: undef :: undef :: undef :: undef :: undef :: undef :: undef :: undef :: undef :: undef :: undef :: undef :: undef :: undef :: undef :: undef :: undef :: undef :: undef :: undef :: undef :: undef :: undef :: undef :: undef :: undef :: undef :: undef :: undef :: undef :: undef :: undef :: undef :: undef :: undef :: undef :: []) k_ undef), (0 : Int), congrArg Fr (by kernel_rfl), rfl, by omega, by omega, by intro a ha; simp at ha, HS⟩ ?_
      clear HS
      intro kq4 a' W5 hrel
      obtain ⟨J3, q, rfl, hk, q0, q1, hf, HS⟩ := hrel
      refine wp_seq ?_
      refine wp_region_lit ?_
      by_cases hc6 : q < (arcs.length : Int)
      · skip
        refine ql (.bool true) (by kernel_rfl) (R_bool (p := q < (arcs.length : Int)) (by kernel_rfl) (hc6)) ?_
        refine wpList_nil ?_
        refine x_then ?_
        refine wp_seq ?_
        refine wp_cond_true (by kernel_rfl) ?_
        refine wp_skip ?_
        refine x_then ?_
        refine wp_seq ?_
        refine wp_block ?_
        refine wp_seq ?_
        refine wp_region_lit ?_
        obtain ⟨ad7, rfl⟩ := Rd.isSome_ hr (by rw [cf_len (z := 2) (fun _ => rfl)]; omega)
        refine ql (.pointer (some (ad7.add (q.toNat * 2)))) (by kernel_rfl) (R_indexA (k := .i64) (p := ad7) (n := arcs.length) (c := c) (i := q) (by kernel_rfl) (by kernel_rfl) Try.underlying65 (by kernel_rfl) (by omega) (by omega)) ?_
        refine ql (.agg #[.int .i64 ((gx arcs q).1), .int .i64 ((gx arcs q).2)]) (by kernel_rfl) (R_loadN (p := ad7.add (q.toNat * 2)) [.int .i64 ((gx arcs q).1), .int .i64 ((gx arcs q).2)] (by kernel_rfl) (by kernel_rfl) (by kernel_rfl) (by kernel_rfl) (HS.oldN (Rd.elem (f := arcC) (fun _ => rfl) hr (gx_eq (by omega) (by omega))))) ?_
        refine kb HS [.int .i64 0, .int .i64 0] 35 (fun g => .pointer (some ⟨g, 0, none⟩)) (by kernel_rfl) (by kernel_rfl) ?_
        intro g8 W9 H_
        replace HS : St W (owns []) W9 [blk g8 [.int .i64 0, .int .i64 0] 35] := H_
        clear H_
        refine ks (v := .agg #[.int .i64 ((gx arcs q).1), .int .i64 ((gx arcs q).2)]) HS 0 rfl (0) [.int .i64 ((gx arcs q).1), .int .i64 ((gx arcs q).2)] (by kernel_rfl) (by kernel_rfl) (by kernel_rfl) (by kernel_rfl) (by kernel_rfl) (one_ (by kernel_rfl)) (Nat.le_of_ble_eq_true rfl) rfl ?_
        intro W10 H_
        replace HS : St W (owns []) W10 [blk g8 [.int .i64 ((gx arcs q).1), .int .i64 ((gx arcs q).2)] 35] := H_
        clear H_
        refine wpList_nil ?_
        refine x_then ?_
        refine wp_seq ?_
        refine wp_region_lit ?_
        refine ql (.pointer (some ⟨g8, 0, none⟩)) (by kernel_rfl) (by kernel_rfl) ?_
        refine ql (.int .i64 ((gx arcs q).1)) (by kernel_rfl) (R_load (p := ⟨g8, 0, none⟩) (by kernel_rfl) (by kernel_rfl) (by kernel_rfl) (HS.cell (i := 0) (j := 0) rfl rfl)) ?_
        by_cases hc11 : ((gx arcs q).1) < (0 : Int)
        · skip
          refine ql (.bool true) (by kernel_rfl) (R_bool (p := ((gx arcs q).1) < (0 : Int)) (by kernel_rfl) (hc11)) ?_
          refine ql (.bool true) (by kernel_rfl) (by kernel_rfl) ?_
          refine qln (by kernel_rfl) ?_
          refine qln (by kernel_rfl) ?_
          refine qln (by kernel_rfl) ?_
          refine qln (by kernel_rfl) ?_
          refine ql (.bool true) (by kernel_rfl) (by kernel_rfl) ?_
          refine ql (.bool true) (by kernel_rfl) (by kernel_rfl) ?_
          refine qln (by kernel_rfl) ?_
          refine qln (by kernel_rfl) ?_
          refine qln (by kernel_rfl) ?_
          refine ql (.bool true) (by kernel_rfl) (by kernel_rfl) ?_
          refine ql (.bool true) (by kernel_rfl) (by kernel_rfl) ?_
          refine qln (by kernel_rfl) ?_
          refine qln (by kernel_rfl) ?_
          refine qln (by kernel_rfl) ?_
          refine qln (by kernel_rfl) ?_
          refine ql (.bool true) (by kernel_rfl) (by kernel_rfl) ?_
          refine wpList_nil ?_
          refine x_then ?_
          refine wp_cond_true (by kernel_rfl) ?_
          refine wp_seq ?_
          refine wp_region_lit ?_
          refine ql (.pointer none) (by kernel_rfl) (by kernel_rfl) ?_
          refine ql (.int .i64 7) (by kernel_rfl) (by kernel_rfl) ?_
          refine wpList_nil ?_
          refine x_then ?_
          refine wp_ret ?_
          refine x_inbR ?_
          refine x_thenR ?_
          refine x_thenR ?_
          refine x_inbR ?_
          refine x_thenR ?_
          refine ret_ (.tuple #[.pointer none, .int .i64 7]) (by kernel_rfl) ?_
          exact .inr ⟨by rw [chk7 (i := q) (by omega) (by omega) q0 (by omega) (by omega)]; decide, by rw [chk7 (i := q) (by omega) (by omega) q0 (by omega) (by omega)], HS.tail (F := [blk g8 [.int .i64 ((gx arcs q).1), .int .i64 ((gx arcs q).2)] 35])⟩
        · skip
          refine ql (.bool false) (by kernel_rfl) (R_nbool (p := ((gx arcs q).1) < (0 : Int)) (by kernel_rfl) (hc11)) ?_
          refine ql (.bool false) (by kernel_rfl) (by kernel_rfl) ?_
          refine ql (.pointer (some ⟨g8, 0, none⟩)) (by kernel_rfl) (by kernel_rfl) ?_
          refine ql (.int .i64 ((gx arcs q).1)) (by kernel_rfl) (R_load (p := ⟨g8, 0, none⟩) (by kernel_rfl) (by kernel_rfl) (by kernel_rfl) (HS.cell (i := 0) (j := 0) rfl rfl)) ?_
          refine ql (.int .i64 (N : Int)) (by kernel_rfl) (by kernel_rfl) ?_
          by_cases hc12 : ((gx arcs q).1) ≥ (N : Int)
          · skip
            refine ql (.bool true) (by kernel_rfl) (R_bool (p := ((gx arcs q).1) ≥ (N : Int)) (by kernel_rfl) (hc12)) ?_
            refine ql (.bool true) (by kernel_rfl) (by kernel_rfl) ?_
            refine ql (.bool true) (by kernel_rfl) (by kernel_rfl) ?_
            refine qln (by kernel_rfl) ?_
            refine qln (by kernel_rfl) ?_
            refine qln (by kernel_rfl) ?_
            refine ql (.bool true) (by kernel_rfl) (by kernel_rfl) ?_
            refine ql (.bool true) (by kernel_rfl) (by kernel_rfl) ?_
            refine qln (by kernel_rfl) ?_
            refine qln (by kernel_rfl) ?_
            refine qln (by kernel_rfl) ?_
            refine qln (by kernel_rfl) ?_
            refine ql (.bool true) (by kernel_rfl) (by kernel_rfl) ?_
            refine wpList_nil ?_
            refine x_then ?_
            refine wp_cond_true (by kernel_rfl) ?_
            refine wp_seq ?_
            refine wp_region_lit ?_
            refine ql (.pointer none) (by kernel_rfl) (by kernel_rfl) ?_
            refine ql (.int .i64 7) (by kernel_rfl) (by kernel_rfl) ?_
            refine wpList_nil ?_
            refine x_then ?_
            refine wp_ret ?_
            refine x_inbR ?_
            refine x_thenR ?_
            refine x_thenR ?_
            refine x_inbR ?_
            refine x_thenR ?_
            refine ret_ (.tuple #[.pointer none, .int .i64 7]) (by kernel_rfl) ?_
            exact .inr ⟨by rw [chk7 (i := q) (by omega) (by omega) q0 (by omega) (by omega)]; decide, by rw [chk7 (i := q) (by omega) (by omega) q0 (by omega) (by omega)], HS.tail (F := [blk g8 [.int .i64 ((gx arcs q).1), .int .i64 ((gx arcs q).2)] 35])⟩
          · skip
            refine ql (.bool false) (by kernel_rfl) (R_nbool (p := ((gx arcs q).1) ≥ (N : Int)) (by kernel_rfl) (hc12)) ?_
            refine ql (.bool false) (by kernel_rfl) (by kernel_rfl) ?_
            refine ql (.bool false) (by kernel_rfl) (by kernel_rfl) ?_
            refine ql (.pointer (some ⟨g8, 1, none⟩)) (by kernel_rfl) (by kernel_rfl) ?_
            refine ql (.int .i64 ((gx arcs q).2)) (by kernel_rfl) (R_load (p := ⟨g8, 1, none⟩) (by kernel_rfl) (by kernel_rfl) (by kernel_rfl) (HS.cell (i := 0) (j := 1) rfl rfl)) ?_
            by_cases hc13 : ((gx arcs q).2) < (0 : Int)
            · skip
              refine ql (.bool true) (by kernel_rfl) (R_bool (p := ((gx arcs q).2) < (0 : Int)) (by kernel_rfl) (hc13)) ?_
              refine ql (.bool true) (by kernel_rfl) (by kernel_rfl) ?_
              refine ql (.bool true) (by kernel_rfl) (by kernel_rfl) ?_
              refine qln (by kernel_rfl) ?_
              refine qln (by kernel_rfl) ?_
              refine qln (by kernel_rfl) ?_
              refine qln (by kernel_rfl) ?_
              refine ql (.bool true) (by kernel_rfl) (by kernel_rfl) ?_
              refine wpList_nil ?_
              refine x_then ?_
              refine wp_cond_true (by kernel_rfl) ?_
              refine wp_seq ?_
              refine wp_region_lit ?_
              refine ql (.pointer none) (by kernel_rfl) (by kernel_rfl) ?_
              refine ql (.int .i64 7) (by kernel_rfl) (by kernel_rfl) ?_
              refine wpList_nil ?_
              refine x_then ?_
              refine wp_ret ?_
              refine x_inbR ?_
              refine x_thenR ?_
              refine x_thenR ?_
              refine x_inbR ?_
              refine x_thenR ?_
              refine ret_ (.tuple #[.pointer none, .int .i64 7]) (by kernel_rfl) ?_
              exact .inr ⟨by rw [chk7 (i := q) (by omega) (by omega) q0 (by omega) (by omega)]; decide, by rw [chk7 (i := q) (by omega) (by omega) q0 (by omega) (by omega)], HS.tail (F := [blk g8 [.int .i64 ((gx arcs q).1), .int .i64 ((gx arcs q).2)] 35])⟩
            · skip
              refine ql (.bool false) (by kernel_rfl) (R_nbool (p := ((gx arcs q).2) < (0 : Int)) (by kernel_rfl) (hc13)) ?_
              refine ql (.bool false) (by kernel_rfl) (by kernel_rfl) ?_
              refine ql (.bool false) (by kernel_rfl) (by kernel_rfl) ?_
              refine ql (.pointer (some ⟨g8, 1, none⟩)) (by kernel_rfl) (by kernel_rfl) ?_
              refine ql (.int .i64 ((gx arcs q).2)) (by kernel_rfl) (R_load (p := ⟨g8, 1, none⟩) (by kernel_rfl) (by kernel_rfl) (by kernel_rfl) (HS.cell (i := 0) (j := 1) rfl rfl)) ?_
              refine ql (.int .i64 (N : Int)) (by kernel_rfl) (by kernel_rfl) ?_
              by_cases hc14 : ((gx arcs q).2) ≥ (N : Int)
              · skip
                refine ql (.bool true) (by kernel_rfl) (R_bool (p := ((gx arcs q).2) ≥ (N : Int)) (by kernel_rfl) (hc14)) ?_
                refine ql (.bool true) (by kernel_rfl) (by kernel_rfl) ?_
                refine wpList_nil ?_
                refine x_then ?_
                refine wp_cond_true (by kernel_rfl) ?_
                refine wp_seq ?_
                refine wp_region_lit ?_
                refine ql (.pointer none) (by kernel_rfl) (by kernel_rfl) ?_
                refine ql (.int .i64 7) (by kernel_rfl) (by kernel_rfl) ?_
                refine wpList_nil ?_
                refine x_then ?_
                refine wp_ret ?_
                refine x_inbR ?_
                refine x_thenR ?_
                refine x_thenR ?_
                refine x_inbR ?_
                refine x_thenR ?_
                refine ret_ (.tuple #[.pointer none, .int .i64 7]) (by kernel_rfl) ?_
                exact .inr ⟨by rw [chk7 (i := q) (by omega) (by omega) q0 (by omega) (by omega)]; decide, by rw [chk7 (i := q) (by omega) (by omega) q0 (by omega) (by omega)], HS.tail (F := [blk g8 [.int .i64 ((gx arcs q).1), .int .i64 ((gx arcs q).2)] 35])⟩
              · skip
                refine ql (.bool false) (by kernel_rfl) (R_nbool (p := ((gx arcs q).2) ≥ (N : Int)) (by kernel_rfl) (hc14)) ?_
                refine ql (.bool false) (by kernel_rfl) (by kernel_rfl) ?_
                refine wpList_nil ?_
                refine x_then ?_
                refine wp_cond_false (by kernel_rfl) ?_
                refine wp_skip ?_
                refine x_inb ?_
                refine x_then ?_
                refine wp_region_lit ?_
                refine ql (.int .i64 (q + 1)) (by kernel_rfl) (R_int (by kernel_rfl) (w64 (by omega))) ?_
                refine ql (.int .i64 (q + 1)) (by kernel_rfl) (by kernel_rfl) ?_
                refine wpList_nil ?_
                replace HS := HS.drop1
                have hfs := fine_step hf q0 (by omega) ⟨by omega, by omega, by omega, by omega⟩
                refine x_then ?_
                exact ⟨arcs.length - (q + 1).toNat, by omega, (fun k_ : Nat => List.getD ((.int .i64 (N : Int)) :: (.slice (some ad7) arcs.length c) :: undef :: undef :: ((J3 4)) :: ((J3 5)) :: undef :: (.pointer (some ⟨g8, 0, none⟩)) :: undef :: (.bool false) :: (.int .i64 (N : Int)) :: (.bool false) :: (.bool false) :: (.int .i64 (N : Int)) :: (.bool false) :: (.bool false) :: (.slice (some ad7) arcs.length c) :: (.int .i64 (arcs.length : Int)) :: (.bool false) :: (.bool false) :: (.slice (some ad7) arcs.length c) :: (.int .i64 (arcs.length : Int)) :: (.int .i64 (q + 1)) :: (.bool true) :: (.pointer (some (ad7.add (q.toNat * 2)))) :: (.agg #[.int .i64 ((gx arcs q).1), .int .i64 ((gx arcs q).2)]) :: (.pointer (some ⟨g8, 0, none⟩)) :: (.int .i64 ((gx arcs q).1)) :: (.bool false) :: (.bool false) :: (.pointer (some ⟨g8, 0, none⟩)) :: (.int .i64 ((gx arcs q).1)) :: (.int .i64 (N : Int)) :: (.bool false) :: (.bool false) :: (.bool false) :: (.pointer (some ⟨g8, 1, none⟩)) :: (.int .i64 ((gx arcs q).2)) :: (.bool false) :: (.bool false) :: (.bool false) :: (.pointer (some ⟨g8, 1, none⟩)) :: (.int .i64 ((gx arcs q).2)) :: (.int .i64 (N : Int)) :: (.bool false) :: (.bool false) :: (.int .i64 (q + 1)) :: undef :: undef :: undef :: undef :: undef :: undef :: undef :: undef :: undef :: undef :: undef :: undef :: undef :: undef :: undef :: undef :: undef :: undef :: undef :: undef :: undef :: undef :: undef :: undef :: undef :: undef :: undef :: undef :: undef :: undef :: undef :: undef :: undef :: undef :: undef :: undef :: []) k_ undef), q + 1, congrArg Fr (by kernel_rfl), rfl, by omega, by omega, hfs, HS⟩
      · skip
        refine ql (.bool false) (by kernel_rfl) (R_nbool (p := q < (arcs.length : Int)) (by kernel_rfl) (hc6)) ?_
        refine wpList_nil ?_
        refine x_then ?_
        refine wp_seq ?_
        refine wp_cond_false (by kernel_rfl) ?_
        refine wp_exit ?_
        refine x_thenE ?_
        refine x_thenE ?_
        refine x_hit ?_
        refine x_then ?_
        refine wp_seq ?_
        have hF : Fine N arcs := by rwa [List.take_of_length_le (by omega)] at hf
        refine wp_region_lit ?_
        refine ql (.int .i64 (N : Int)) (by kernel_rfl) (by kernel_rfl) ?_
        refine ql (.slice A arcs.length c) (by kernel_rfl) (by kernel_rfl) ?_
        refine ka0 HS (Src.of_rd' (n := arcs.length) (c := c) (z := 2) (hr.old0 HS) (by rw [cf_len (z := 2) (fun _ => rfl)]) (by decide) (cf_one (fun _ => rfl))) [.int .i64 0, .int .i64 0] 16 (by kernel_rfl) (by kernel_rfl) (by kernel_rfl) Try.underlying65 (by kernel_rfl) (by kernel_rfl) (by kernel_rfl) (by kernel_rfl) (by decide) (by omega) (by omega) ?_
        intro A15 c16 W17 H_
        replace HS : St W (owns []) W17 [row A15 arcs.length c16 (cf arcC arcs) 35 2] := H_
        clear H_
        refine ql (.agg #[.int .i64 (N : Int), .slice A15 arcs.length c16, .slice none 0 0, .slice none 0 0, .slice none 0 0, .slice none 0 0]) (by kernel_rfl) (by kernel_rfl) ?_
        refine kb HS [.int .i64 (N : Int), .slice A15 arcs.length c16, .slice none 0 0, .slice none 0 0, .slice none 0 0, .slice none 0 0] 69 (fun g => .pointer (some ⟨g, 0, none⟩)) (by kernel_rfl) (by kernel_rfl) ?_
        intro g18 W19 H_
        replace HS : St W (owns []) W19 [blk g18 [.int .i64 (N : Int), .slice A15 arcs.length c16, .slice none 0 0, .slice none 0 0, .slice none 0 0, .slice none 0 0] 69, row A15 arcs.length c16 (cf arcC arcs) 35 2] := H_
        clear H_
        refine ql (.pointer (some ⟨g18, 0, none⟩)) (by kernel_rfl) (by kernel_rfl) ?_
        refine wpList_nil ?_
        refine x_then ?_
        refine wp_seq ?_
        refine wp_region_lit ?_
        refine ql (.pointer (some ⟨g18, 0, none⟩)) (by kernel_rfl) (by kernel_rfl) ?_
        refine ql (.pointer (some ⟨g18, 0, none⟩)) (by kernel_rfl) (by kernel_rfl) ?_
        refine ql (.int .i64 (N : Int)) (by kernel_rfl) (by kernel_rfl) ?_
        refine ql (.pointer (some ⟨g18, 0, none⟩)) (by kernel_rfl) (by kernel_rfl) ?_
        refine ql (.pointer (some ⟨g18, 0, none⟩)) (by kernel_rfl) (by kernel_rfl) ?_
        refine ql (.pointer (some ⟨g18, 1, none⟩)) (by kernel_rfl) (by kernel_rfl) ?_
        refine ql (.slice A15 arcs.length c16) (by kernel_rfl) (R_load (p := ⟨g18, 1, none⟩) (by kernel_rfl) (by kernel_rfl) (by kernel_rfl) (HS.cell (i := 0) (j := 1) rfl rfl)) ?_
        refine qc (f := 61) (args := #[.int .i64 (N : Int), .slice A15 arcs.length c16, .bool false]) (by kernel_rfl) (R_call #[.int .i64 (N : Int), .slice A15 arcs.length c16, .bool false] Try.func61 (by kernel_rfl) (by kernel_rfl) (by kernel_rfl)) ?_
        refine (lay_calls N _ _ arcs false _ (Rd.row HS (i := 1) rfl) hF (by omega) (by omega)).mono ?_
        rintro e W20 ⟨Ax1, cx1, Ay1, cy1, os, rfl, H_, hla1⟩
        refine ⟨_, rfl, ?_⟩
        replace HS : St W (owns []) W20 [row Ax1 arcs.length cx1 (ci .i32 os) 21 1, row Ay1 (N + 1) cy1 (ci .i32 (bl N (keys false arcs))) 21 1, blk g18 [.int .i64 (N : Int), .slice A15 arcs.length c16, .slice none 0 0, .slice none 0 0, .slice none 0 0, .slice none 0 0] 69, row A15 arcs.length c16 (cf arcC arcs) 35 2] := HS.join (F := []) (G := [row Ax1 arcs.length cx1 (ci .i32 os) 21 1, row Ay1 (N + 1) cy1 (ci .i32 (bl N (keys false arcs))) 21 1]) H_
        clear H_
        refine ql (.tuple #[.slice Ax1 arcs.length cx1, .slice Ay1 (N + 1) cy1]) (by kernel_rfl) (by kernel_rfl) ?_
        refine ql (.slice Ax1 arcs.length cx1) (by kernel_rfl) (by kernel_rfl) ?_
        refine ql (.slice Ay1 (N + 1) cy1) (by kernel_rfl) (by kernel_rfl) ?_
        refine ql (.pointer (some ⟨g18, 0, none⟩)) (by kernel_rfl) (by kernel_rfl) ?_
        refine ql (.pointer (some ⟨g18, 2, none⟩)) (by kernel_rfl) (by kernel_rfl) ?_
        refine ks (v := .slice Ax1 arcs.length cx1) HS 2 rfl (2) [.slice Ax1 arcs.length cx1] (by kernel_rfl) (by kernel_rfl) (by kernel_rfl) (by kernel_rfl) (by kernel_rfl) (one_ (by kernel_rfl)) (Nat.le_of_ble_eq_true rfl) rfl ?_
        intro W21 H_
        replace HS : St W (owns []) W21 [row Ax1 arcs.length cx1 (ci .i32 os) 21 1, row Ay1 (N + 1) cy1 (ci .i32 (bl N (keys false arcs))) 21 1, blk g18 [.int .i64 (N : Int), .slice A15 arcs.length c16, .slice Ax1 arcs.length cx1, .slice none 0 0, .slice none 0 0, .slice none 0 0] 69, row A15 arcs.length c16 (cf arcC arcs) 35 2] := H_
        clear H_
        refine ql (.pointer (some ⟨g18, 0, none⟩)) (by kernel_rfl) (by kernel_rfl) ?_
        refine ql (.pointer (some ⟨g18, 4, none⟩)) (by kernel_rfl) (by kernel_rfl) ?_
        refine ks (v := .slice Ay1 (N + 1) cy1) HS 2 rfl (4) [.slice Ay1 (N + 1) cy1] (by kernel_rfl) (by kernel_rfl) (by kernel_rfl) (by kernel_rfl) (by kernel_rfl) (one_ (by kernel_rfl)) (Nat.le_of_ble_eq_true rfl) rfl ?_
        intro W22 H_
        replace HS : St W (owns []) W22 [row Ax1 arcs.length cx1 (ci .i32 os) 21 1, row Ay1 (N + 1) cy1 (ci .i32 (bl N (keys false arcs))) 21 1, blk g18 [.int .i64 (N : Int), .slice A15 arcs.length c16, .slice Ax1 arcs.length cx1, .slice none 0 0, .slice Ay1 (N + 1) cy1, .slice none 0 0] 69, row A15 arcs.length c16 (cf arcC arcs) 35 2] := H_
        clear H_
        refine wpList_nil ?_
        refine x_then ?_
        refine wp_seq ?_
        refine wp_region_lit ?_
        refine ql (.pointer (some ⟨g18, 0, none⟩)) (by kernel_rfl) (by kernel_rfl) ?_
        refine ql (.pointer (some ⟨g18, 0, none⟩)) (by kernel_rfl) (by kernel_rfl) ?_
        refine ql (.int .i64 (N : Int)) (by kernel_rfl) (by kernel_rfl) ?_
        refine ql (.pointer (some ⟨g18, 0, none⟩)) (by kernel_rfl) (by kernel_rfl) ?_
        refine ql (.pointer (some ⟨g18, 0, none⟩)) (by kernel_rfl) (by kernel_rfl) ?_
        refine ql (.pointer (some ⟨g18, 1, none⟩)) (by kernel_rfl) (by kernel_rfl) ?_
        refine ql (.slice A15 arcs.length c16) (by kernel_rfl) (R_load (p := ⟨g18, 1, none⟩) (by kernel_rfl) (by kernel_rfl) (by kernel_rfl) (HS.cell (i := 2) (j := 1) rfl rfl)) ?_
        refine qc (f := 61) (args := #[.int .i64 (N : Int), .slice A15 arcs.length c16, .bool true]) (by kernel_rfl) (R_call #[.int .i64 (N : Int), .slice A15 arcs.length c16, .bool true] Try.func61 (by kernel_rfl) (by kernel_rfl) (by kernel_rfl)) ?_
        refine (lay_calls N _ _ arcs true _ (Rd.row HS (i := 3) rfl) hF (by omega) (by omega)).mono ?_
        rintro e W23 ⟨Ax2, cx2, Ay2, cy2, js, rfl, H_, hla2⟩
        refine ⟨_, rfl, ?_⟩
        replace HS : St W (owns []) W23 [row Ax2 arcs.length cx2 (ci .i32 js) 21 1, row Ay2 (N + 1) cy2 (ci .i32 (bl N (keys true arcs))) 21 1, row Ax1 arcs.length cx1 (ci .i32 os) 21 1, row Ay1 (N + 1) cy1 (ci .i32 (bl N (keys false arcs))) 21 1, blk g18 [.int .i64 (N : Int), .slice A15 arcs.length c16, .slice Ax1 arcs.length cx1, .slice none 0 0, .slice Ay1 (N + 1) cy1, .slice none 0 0] 69, row A15 arcs.length c16 (cf arcC arcs) 35 2] := HS.join (F := []) (G := [row Ax2 arcs.length cx2 (ci .i32 js) 21 1, row Ay2 (N + 1) cy2 (ci .i32 (bl N (keys true arcs))) 21 1]) H_
        clear H_
        refine ql (.tuple #[.slice Ax2 arcs.length cx2, .slice Ay2 (N + 1) cy2]) (by kernel_rfl) (by kernel_rfl) ?_
        refine ql (.slice Ax2 arcs.length cx2) (by kernel_rfl) (by kernel_rfl) ?_
        refine ql (.slice Ay2 (N + 1) cy2) (by kernel_rfl) (by kernel_rfl) ?_
        refine ql (.pointer (some ⟨g18, 0, none⟩)) (by kernel_rfl) (by kernel_rfl) ?_
        refine ql (.pointer (some ⟨g18, 3, none⟩)) (by kernel_rfl) (by kernel_rfl) ?_
        refine ks (v := .slice Ax2 arcs.length cx2) HS 4 rfl (3) [.slice Ax2 arcs.length cx2] (by kernel_rfl) (by kernel_rfl) (by kernel_rfl) (by kernel_rfl) (by kernel_rfl) (one_ (by kernel_rfl)) (Nat.le_of_ble_eq_true rfl) rfl ?_
        intro W24 H_
        replace HS : St W (owns []) W24 [row Ax2 arcs.length cx2 (ci .i32 js) 21 1, row Ay2 (N + 1) cy2 (ci .i32 (bl N (keys true arcs))) 21 1, row Ax1 arcs.length cx1 (ci .i32 os) 21 1, row Ay1 (N + 1) cy1 (ci .i32 (bl N (keys false arcs))) 21 1, blk g18 [.int .i64 (N : Int), .slice A15 arcs.length c16, .slice Ax1 arcs.length cx1, .slice Ax2 arcs.length cx2, .slice Ay1 (N + 1) cy1, .slice none 0 0] 69, row A15 arcs.length c16 (cf arcC arcs) 35 2] := H_
        clear H_
        refine ql (.pointer (some ⟨g18, 0, none⟩)) (by kernel_rfl) (by kernel_rfl) ?_
        refine ql (.pointer (some ⟨g18, 5, none⟩)) (by kernel_rfl) (by kernel_rfl) ?_
        refine ks (v := .slice Ay2 (N + 1) cy2) HS 4 rfl (5) [.slice Ay2 (N + 1) cy2] (by kernel_rfl) (by kernel_rfl) (by kernel_rfl) (by kernel_rfl) (by kernel_rfl) (one_ (by kernel_rfl)) (Nat.le_of_ble_eq_true rfl) rfl ?_
        intro W25 H_
        replace HS : St W (owns []) W25 [row Ax2 arcs.length cx2 (ci .i32 js) 21 1, row Ay2 (N + 1) cy2 (ci .i32 (bl N (keys true arcs))) 21 1, row Ax1 arcs.length cx1 (ci .i32 os) 21 1, row Ay1 (N + 1) cy1 (ci .i32 (bl N (keys false arcs))) 21 1, blk g18 [.int .i64 (N : Int), .slice A15 arcs.length c16, .slice Ax1 arcs.length cx1, .slice Ax2 arcs.length cx2, .slice Ay1 (N + 1) cy1, .slice Ay2 (N + 1) cy2] 69, row A15 arcs.length c16 (cf arcC arcs) 35 2] := H_
        clear H_
        refine wpList_nil ?_
        refine x_then ?_
        refine wp_seq ?_
        refine wp_region_lit ?_
        refine ql (.pointer (some ⟨g18, 0, none⟩)) (by kernel_rfl) (by kernel_rfl) ?_
        refine ql (.pointer (some ⟨g18, 0, none⟩)) (by kernel_rfl) (by kernel_rfl) ?_
        refine ql (.int .i64 0) (by kernel_rfl) (by kernel_rfl) ?_
        refine wpList_nil ?_
        refine x_then ?_
        refine wp_ret ?_
        refine ret_ (.tuple #[.pointer (some ⟨g18, 0, none⟩), .int .i64 0]) (by kernel_rfl) ?_
        refine .inl ⟨chk0 (by omega) hF, g18, N, rfl, rfl, HS.tail (F := [row Ax2 arcs.length cx2 (ci .i32 js) 21 1, row Ay2 (N + 1) cy2 (ci .i32 (bl N (keys true arcs))) 21 1, row Ax1 arcs.length cx1 (ci .i32 os) 21 1, row Ay1 (N + 1) cy1 (ci .i32 (bl N (keys false arcs))) 21 1, blk g18 [.int .i64 (N : Int), .slice A15 arcs.length c16, .slice Ax1 arcs.length cx1, .slice Ax2 arcs.length cx2, .slice Ay1 (N + 1) cy1, .slice Ay2 (N + 1) cy2] 69, row A15 arcs.length c16 (cf arcC arcs) 35 2]), ?_⟩
        refine ⟨_, _, _, _, _, _, _, _, _, _, os, js, HS.blkE (i := 4) rfl, Rd.row HS (i := 5) rfl, Rd.row HS (i := 2) rfl, Rd.row HS (i := 0) rfl, Rd.row HS (i := 3) rfl, Rd.row HS (i := 1) rfl, hla1, hla2, hF, by omega, by omega, (HS.rcap (i := 2) rfl).1, (HS.rcap (i := 0) rfl).1, (HS.rcap (i := 3) rfl).1, (HS.rcap (i := 1) rfl).1⟩

theorem new_calls (n : Int) (A : Option Addr) (c : Nat) (arcs : List (Int × Int)) (W : World) (hr : Rd W A (cf arcC arcs)) (hl : arcs.length ≤ 1099511627776) : Calls Try.prog 49 #[.int .i64 n, .slice A arcs.length c] W fun e W' => NewP W n arcs e W' := by
  by_cases hn : n < 0
  · exact new_neg n A c arcs W hr hl hn
  · obtain ⟨N, rfl⟩ : ∃ N : Nat, n = (N : Int) := ⟨n.toNat, by omega⟩
    exact new_nat N A c arcs W hr hl


set_option maxRecDepth 100000 in
set_option maxHeartbeats 1000000 in
theorem same_t (A B : Option Addr) (c d : Nat) (xs : List Int) (W : World) (hr : Rd W A (ci .i64 xs)) (hs : Rd W B (ci .i64 xs)) (hl : xs.length ≤ 1099511627776) : Calls Try.prog 23 #[.slice A xs.length c, .slice B xs.length d] W fun e W' => e = .returned (.bool true) ∧ St W (owns []) W' [] := by
  have HS : St W (owns []) W [] := St.start W _
  refine calls_enter [.slice A xs.length c, .slice B xs.length d, undef, undef, undef, undef, undef, undef, undef, undef, undef, undef, undef, undef, undef, undef, undef, undef, undef, undef, undef, undef, undef, undef, undef, undef] Try.func23 rfl (by kernel_rfl) ?_
  refine wp_seq ?_
  refine wp_region_lit ?_
  refine ql (.bool false) (by kernel_rfl) (by kernel_rfl) ?_
  refine wpList_nil ?_
  refine x_then ?_
  refine wp_seq ?_
  refine wp_seq ?_
  refine wp_region_lit ?_
  refine ql (.slice A xs.length c) (by kernel_rfl) (by kernel_rfl) ?_
  refine ql (.int .i64 (xs.length : Int)) (by kernel_rfl) (by kernel_rfl) ?_
  refine ql (.slice B xs.length d) (by kernel_rfl) (by kernel_rfl) ?_
  refine ql (.int .i64 (xs.length : Int)) (by kernel_rfl) (by kernel_rfl) ?_
  refine ql (.bool false) (by kernel_rfl) (R_beq (b := ((xs.length : Int) != (xs.length : Int))) (by kernel_rfl) (bne_f (by omega))) ?_
  refine wpList_nil ?_
  refine x_then ?_
  refine wp_cond_false (by kernel_rfl) ?_
  refine wp_skip ?_
  refine x_then ?_
  refine wp_seq ?_
  refine wp_seq ?_
  refine wp_region_lit ?_
  refine ql (.int .i64 0) (by kernel_rfl) (by kernel_rfl) ?_
  refine wpList_nil ?_
  refine x_then ?_
  refine wp_block ?_
  refine wp_loop_ghost (fun kq a' w' => ∃ (J1 : Nat → Value) (i : Int) , a' = Fr [.slice A xs.length c, .slice B xs.length d, undef, undef, (J1 4), .int .i64 i, .slice A xs.length c, .int .i64 (xs.length : Int), .slice B xs.length d, .int .i64 (xs.length : Int), .bool false, (J1 11), (J1 12), (J1 13), (J1 14), (J1 15), (J1 16), (J1 17), (J1 18), (J1 19), (J1 20), (J1 21), (J1 22), (J1 23), (J1 24), (J1 25)] ∧ kq = (xs.length - (i).toNat) ∧ (0 ≤ i) ∧ (i ≤ xs.length) ∧ St W (owns []) w' []) (xs.length - ((0 : Int)).toNat) ⟨(fun k_ : Nat => List.getD [.slice A xs.length c, .slice B xs.length d, undef, undef, .bool false, .int .i64 0, .slice A xs.length c, .int .i64 (xs.length : Int), .slice B xs.length d, .int .i64 (xs.length : Int), .bool false, undef, undef, undef, undef, undef, undef, undef, undef, undef, undef, undef, undef, undef, undef, undef] k_ undef), (0 : Int), congrArg Fr (by kernel_rfl), rfl, by omega, by omega, HS⟩ ?_
  clear HS
  intro kq2 a' W3 hrel
  obtain ⟨J1, i, rfl, hk, h0, h1, HS⟩ := hrel
  refine wp_seq ?_
  refine wp_seq ?_
  refine wp_region_lit ?_
  refine ql (.int .i64 i) (by kernel_rfl) (by kernel_rfl) ?_
  refine ql (.slice A xs.length c) (by kernel_rfl) (by kernel_rfl) ?_
  refine ql (.int .i64 (xs.length : Int)) (by kernel_rfl) (by kernel_rfl) ?_
  by_cases hc4 : i < (xs.length : Int)
  · skip
    refine ql (.bool true) (by kernel_rfl) (R_bool (p := i < (xs.length : Int)) (by kernel_rfl) (hc4)) ?_
    refine wpList_nil ?_
    refine x_then ?_
    refine wp_cond_true (by kernel_rfl) ?_
    refine wp_skip ?_
    refine x_then ?_
    refine wp_seq ?_
    refine wp_block ?_
    refine wp_seq ?_
    refine rg_still HS 8 (by kernel_rfl) (by kernel_rfl) ?_
    intro W5 H_ HK_
    simp only [List.take_succ_cons, List.take_zero, List.drop_succ_cons, List.drop_zero]
    replace HS : St W (owns []) W5 [] := H_
    clear H_
    clear HK_
    refine qs (.slice A xs.length c) (by kernel_rfl) (by kernel_rfl) ?_
    refine qs (.int .i64 i) (by kernel_rfl) (by kernel_rfl) ?_
    obtain ⟨ad6, rfl⟩ := Rd.isSome_ hr (by rw [ci_len]; omega)
    refine qs (.pointer (some (ad6.add i.toNat))) (by kernel_rfl) (R_indexA1 (k := .i64) (p := ad6) (n := xs.length) (c := c) (i := i) (by kernel_rfl) (by kernel_rfl) Try.underlying28 (by kernel_rfl) (by omega) (by omega)) ?_
    refine qs (.int .i64 (rdI xs i)) (by kernel_rfl) (R_load (p := ad6.add i.toNat) (by kernel_rfl) (by kernel_rfl) (by kernel_rfl) (HS.old0 (hr.at_ (ci_rd (by omega) (by omega))))) ?_
    refine qs (.slice B xs.length d) (by kernel_rfl) (by kernel_rfl) ?_
    refine qs (.int .i64 i) (by kernel_rfl) (by kernel_rfl) ?_
    obtain ⟨ad7, rfl⟩ := Rd.isSome_ hs (by rw [ci_len]; omega)
    refine qs (.pointer (some (ad7.add i.toNat))) (by kernel_rfl) (R_indexA1 (k := .i64) (p := ad7) (n := xs.length) (c := d) (i := i) (by kernel_rfl) (by kernel_rfl) Try.underlying28 (by kernel_rfl) (by omega) (by omega)) ?_
    refine qs (.int .i64 (rdI xs i)) (by kernel_rfl) (R_load (p := ad7.add i.toNat) (by kernel_rfl) (by kernel_rfl) (by kernel_rfl) (HS.old0 (hs.at_ (ci_rd (by omega) (by omega))))) ?_
    refine wpStill_nil ?_
    refine ql (.bool false) (by kernel_rfl) (R_beq (b := (rdI xs i != rdI xs i)) (by kernel_rfl) (bne_f (by omega))) ?_
    refine wpList_nil ?_
    refine x_then ?_
    refine wp_cond_false (by kernel_rfl) ?_
    refine wp_skip ?_
    refine x_inb ?_
    refine x_then ?_
    refine wp_region_lit ?_
    refine ql (.int .i64 i) (by kernel_rfl) (by kernel_rfl) ?_
    refine ql (.int .i64 (i + 1)) (by kernel_rfl) (R_int (by kernel_rfl) (w64 (by omega))) ?_
    refine ql (.int .i64 (i + 1)) (by kernel_rfl) (by kernel_rfl) ?_
    refine wpList_nil ?_
    refine x_then ?_
    exact ⟨xs.length - (i + 1).toNat, by omega, (fun k_ : Nat => List.getD [.slice (some ad6) xs.length c, .slice (some ad7) xs.length d, undef, undef, (J1 4), .int .i64 (i + 1), .slice (some ad6) xs.length c, .int .i64 (xs.length : Int), .slice (some ad7) xs.length d, .int .i64 (xs.length : Int), .bool false, .int .i64 i, .slice (some ad6) xs.length c, .int .i64 (xs.length : Int), .bool true, .int .i64 i, .int .i64 (i + 1), .slice (some ad6) xs.length c, .int .i64 i, .pointer (some (ad6.add i.toNat)), .int .i64 (rdI xs i), .slice (some ad7) xs.length d, .int .i64 i, .pointer (some (ad7.add i.toNat)), .int .i64 (rdI xs i), .bool false] k_ undef), i + 1, congrArg Fr (by kernel_rfl), rfl, by omega, by omega, HS⟩
  · skip
    refine ql (.bool false) (by kernel_rfl) (R_nbool (p := i < (xs.length : Int)) (by kernel_rfl) (hc4)) ?_
    refine wpList_nil ?_
    refine x_then ?_
    refine wp_cond_false (by kernel_rfl) ?_
    refine wp_exit ?_
    refine x_thenE ?_
    refine x_thenE ?_
    refine x_hit ?_
    refine x_then ?_
    refine wp_seq ?_
    refine wp_region_lit ?_
    refine ql (.bool true) (by kernel_rfl) (by kernel_rfl) ?_
    refine wpList_nil ?_
    refine x_then ?_
    refine wp_ret ?_
    refine ret_ (.bool true) (by kernel_rfl) ?_
    exact ⟨rfl, HS⟩

set_option maxRecDepth 100000 in
set_option maxHeartbeats 1000000 in
theorem of_calls (n : Int) (A : Option Addr) (c : Nat) (arcs : List (Int × Int)) (W : World) (hr : Rd W A (cf arcC arcs)) (hl : arcs.length ≤ 1048576) : Calls Try.prog 13 #[.int .i64 n, .slice A arcs.length c] W fun e W' => NewP W n arcs e W' := by
  have HS : St W (owns []) W [] := St.start W _
  refine calls_enter [.int .i64 n, .slice A arcs.length c, undef, undef, undef, undef, undef, undef, undef, undef, undef, undef, undef, undef, undef, undef, undef, undef, undef, undef, undef, undef, undef, undef, undef, undef, undef, undef, undef, undef, undef, undef, undef, undef] Try.func13 rfl (by kernel_rfl) ?_
  refine wp_seq ?_
  refine wp_region_lit ?_
  refine ql (.pointer none) (by kernel_rfl) (by kernel_rfl) ?_
  refine ql (.int .i64 0) (by kernel_rfl) (by kernel_rfl) ?_
  refine wpList_nil ?_
  refine x_then ?_
  refine wp_seq ?_
  refine wp_region_lit ?_
  refine kl HS 0 [] 35 2 (by kernel_rfl) (by kernel_rfl) rfl (by decide) ?_
  intro g1 W2 H_
  replace HS : St W (owns []) W2 [row (some ⟨g1, 0, none⟩) 0 0 (cf arcC ([])) 35 2] := H_.cast_ (by kernel_rfl)
  clear H_
  refine ql (.slice (some ⟨g1, 0, none⟩) 0 0) (by kernel_rfl) (by kernel_rfl) ?_
  refine wpList_nil ?_
  refine x_then ?_
  refine wp_seq ?_
  refine wp_seq ?_
  refine wp_region_lit ?_
  refine ql (.int .i64 0) (by kernel_rfl) (by kernel_rfl) ?_
  refine wpList_nil ?_
  refine x_then ?_
  refine wp_block ?_
  refine wp_loop_ghost (fun kq a' w' => ∃ (J3 : Nat → Value) (i : Int) (Ao : Option Addr) (co : Nat) (os : List (Int × Int)) , a' = Fr [.int .i64 n, .slice A arcs.length c, undef, undef, .pointer none, .int .i64 0, .slice Ao os.length co, .int .i64 i, .slice (some ⟨g1, 0, none⟩) 0 0, (J3 9), (J3 10), (J3 11), (J3 12), (J3 13), (J3 14), (J3 15), (J3 16), (J3 17), (J3 18), (J3 19), (J3 20), (J3 21), (J3 22), (J3 23), (J3 24), (J3 25), (J3 26), (J3 27), (J3 28), undef, undef, undef, undef, undef] ∧ kq = (arcs.length - (i).toNat) ∧ (0 ≤ i) ∧ (i ≤ arcs.length) ∧ (os = arcs.take (i).toNat) ∧ ((os.length : Int) ≤ i) ∧ St W (owns []) w' [row Ao os.length co (cf arcC os) 35 2]) (arcs.length - ((0 : Int)).toNat) ⟨(fun k_ : Nat => List.getD [.int .i64 n, .slice A arcs.length c, undef, undef, .pointer none, .int .i64 0, .slice (some ⟨g1, 0, none⟩) 0 0, .int .i64 0, .slice (some ⟨g1, 0, none⟩) 0 0, undef, undef, undef, undef, undef, undef, undef, undef, undef, undef, undef, undef, undef, undef, undef, undef, undef, undef, undef, undef, undef, undef, undef, undef, undef] k_ undef), (0 : Int), some ⟨g1, 0, none⟩, 0, ([] : List (Int × Int)), congrArg Fr (by kernel_rfl), rfl, by omega, by omega, by rw [Int.toNat_zero, List.take_zero], by simp, HS⟩ ?_
  clear HS
  intro kq4 a' W5 hrel
  obtain ⟨J3, i, Ao, co, os, rfl, hk, h0, h1, ho, hol, HS⟩ := hrel
  refine wp_seq ?_
  refine wp_seq ?_
  refine wp_region_lit ?_
  refine ql (.int .i64 i) (by kernel_rfl) (by kernel_rfl) ?_
  refine ql (.slice A arcs.length c) (by kernel_rfl) (by kernel_rfl) ?_
  refine ql (.int .i64 (arcs.length : Int)) (by kernel_rfl) (by kernel_rfl) ?_
  by_cases hc6 : i < (arcs.length : Int)
  · skip
    refine ql (.bool true) (by kernel_rfl) (R_bool (p := i < (arcs.length : Int)) (by kernel_rfl) (hc6)) ?_
    refine wpList_nil ?_
    refine x_then ?_
    refine wp_cond_true (by kernel_rfl) ?_
    refine wp_skip ?_
    refine x_then ?_
    refine wp_seq ?_
    refine wp_block ?_
    refine t_start HS (row Ao os.length co (cf arcC os) 35 2).own 15 (by kernel_rfl) rfl ?_
    intro W7 H_ HD_
    clear HD_
    replace HS : St W (owns []) W7 [row Ao os.length co (cf arcC os) 35 2] := H_
    clear H_
    have HV := HS
    have HK := Kpt.refl (row Ao os.length co (cf arcC os) 35 2).own W7
    refine t_q (n := 14) 0 (.slice Ao os.length co) rfl (by kernel_rfl) (by kernel_rfl) (fun _ _ _ h => h) (fun w' hk => (by kernel_rfl)) HK ?_
    refine t_q (n := 13) 1 (.slice A arcs.length c) rfl (by kernel_rfl) (by kernel_rfl) (fun _ _ _ h => h) (fun w' hk => (by kernel_rfl)) HK ?_
    refine t_q (n := 12) 2 (.int .i64 i) rfl (by kernel_rfl) (by kernel_rfl) (fun _ _ _ h => h) (fun w' hk => (by kernel_rfl)) HK ?_
    obtain ⟨ad8, rfl⟩ := Rd.isSome_ hr (by rw [cf_len (z := 2) (fun _ => rfl)]; omega)
    refine t_q (n := 11) 3 (.pointer (some (ad8.add (i.toNat * 2)))) rfl (by kernel_rfl) (by kernel_rfl) (fun _ _ _ h => h) (fun w' hk => (R_indexA (k := .i64) (p := ad8) (n := arcs.length) (c := c) (i := i) (by kernel_rfl) (by kernel_rfl) Try.underlying22 (by kernel_rfl) (by omega) (by omega))) HK ?_
    refine t_q (n := 10) 4 (.pointer (some (ad8.add (i.toNat * 2)))) rfl (by kernel_rfl) (by kernel_rfl) (fun _ _ _ h => h) (fun w' hk => (by kernel_rfl)) HK ?_
    refine t_q (n := 9) 5 (.int .i64 ((gx arcs i).1)) rfl (by kernel_rfl) (by kernel_rfl) (fun _ _ _ h => h) (fun w' hk => (R_load (p := ad8.add (i.toNat * 2)) (by kernel_rfl) (by kernel_rfl) (by kernel_rfl) (HV.oldK (i := 0) rfl hk (Rd.elem0 (f := arcC) (fun _ => rfl) hr (gx_eq (by omega) (by omega)) rfl)))) HK ?_
    refine t_q (n := 8) 6 (.slice (some ad8) arcs.length c) rfl (by kernel_rfl) (by kernel_rfl) (fun _ _ _ h => h) (fun w' hk => (by kernel_rfl)) HK ?_
    refine t_q (n := 7) 7 (.int .i64 i) rfl (by kernel_rfl) (by kernel_rfl) (fun _ _ _ h => h) (fun w' hk => (by kernel_rfl)) HK ?_
    refine t_q (n := 6) 8 (.pointer (some (ad8.add (i.toNat * 2)))) rfl (by kernel_rfl) (by kernel_rfl) (fun _ _ _ h => h) (fun w' hk => (R_indexA (k := .i64) (p := ad8) (n := arcs.length) (c := c) (i := i) (by kernel_rfl) (by kernel_rfl) Try.underlying22 (by kernel_rfl) (by omega) (by omega))) HK ?_
    refine t_q (n := 5) 9 (.pointer (some ((ad8.add (i.toNat * 2)).add 1))) rfl (by kernel_rfl) (by kernel_rfl) (fun _ _ _ h => h) (fun w' hk => (by kernel_rfl)) HK ?_
    refine t_q (n := 4) 10 (.int .i64 ((gx arcs i).2)) rfl (by kernel_rfl) (by kernel_rfl) (fun _ _ _ h => h) (fun w' hk => (R_load (p := (ad8.add (i.toNat * 2)).add 1) (by kernel_rfl) (by kernel_rfl) (by kernel_rfl) (HV.oldK (i := 0) rfl hk (Rd.elem1 (k := 1) (f := arcC) (fun _ => rfl) hr (gx_eq (by omega) (by omega)) rfl)))) HK ?_
    refine t_q (n := 3) 11 (.agg #[.int .i64 ((gx arcs i).1), .int .i64 ((gx arcs i).2)]) rfl (by kernel_rfl) (by kernel_rfl) (fun _ _ _ h => h) (fun w' hk => (by kernel_rfl)) HK ?_
    obtain ⟨g9, W10, hg_, hw_, H_, hk_⟩ := ex_lit HS 1 [.int .i64 ((gx arcs i).1), .int .i64 ((gx arcs i).2)] 35 2 rfl (by decide)
    refine t_e (n := 2) 12 (.slice (some ⟨g9, 0, none⟩) 1 1) rfl (by kernel_rfl) (by kernel_rfl) (by subst hg_; subst hw_; kernel_rfl) (HK.tr hk_) ?_
    replace HK := HK.tr hk_
    clear hk_
    clear hg_ hw_
    replace HS : St W (owns []) W10 [row (some ⟨g9, 0, none⟩) 1 1 (cf arcC ([((gx arcs i).1, (gx arcs i).2)])) 35 2, row Ao os.length co (cf arcC os) 35 2] := H_.cast_ (by kernel_rfl)
    clear H_
    obtain ⟨xs14, xs14_⟩ : ∃ z_ : List (Int × Int), z_ = os ++ ([((gx arcs i).1, (gx arcs i).2)]) := ⟨_, rfl⟩
    have xs14l : xs14.length = os.length + 1 := by rw [xs14_, List.length_append] <;> (try simp only [List.length_cons, List.length_nil]) <;> omega
    obtain ⟨A11, c12, W13, hrun_, H_, hk_⟩ := ex_append (P := Try.prog) (ty := 65) (ps := "law.go:15") (af := #[{ on := 0, ground := Go.Ground.data }, { on := 12, ground := Go.Ground.data }]) (gd := none) (dst := some 28) (t := 65) (s := (Go.Operand.tmp 15)) (x := (Go.Operand.tmp 27)) HS 1 rfl (Src.of_row HS (i := 0) rfl (cf_one (fun _ => rfl))) [.int .i64 0, .int .i64 0] 16 xs14.length (cf arcC xs14) (by omega) (by rw [xs14_, cf_app]) (by kernel_rfl) (by kernel_rfl) Try.underlying65 (by kernel_rfl) (by kernel_rfl) (by kernel_rfl) (by kernel_rfl) (by decide) (by omega) (by omega)
    refine t_e (n := 1) 13 (.slice A11 xs14.length c12) rfl (by kernel_rfl) (by kernel_rfl) hrun_ (HK.trN hk_) ?_
    replace HK := HK.trN hk_
    clear hk_ hrun_
    replace HS : St W (owns []) W13 [row (some ⟨g9, 0, none⟩) 1 1 (cf arcC ([((gx arcs i).1, (gx arcs i).2)])) 35 2, row A11 xs14.length c12 (cf arcC xs14) 35 2] := H_
    clear H_
    refine t_q (n := 0) 14 (.slice A11 xs14.length c12) rfl (by kernel_rfl) (by kernel_rfl) (fun _ _ _ h => h) (fun w' hk => (by kernel_rfl)) HK ?_
    refine t_done (by kernel_rfl) ?_
    clear HV HK
    refine x_inb ?_
    refine x_then ?_
    refine wp_region_lit ?_
    refine ql (.int .i64 i) (by kernel_rfl) (by kernel_rfl) ?_
    refine ql (.int .i64 (i + 1)) (by kernel_rfl) (R_int (by kernel_rfl) (w64 (by omega))) ?_
    refine ql (.int .i64 (i + 1)) (by kernel_rfl) (by kernel_rfl) ?_
    refine wpList_nil ?_
    replace HS := HS.drop1
    have hst := id_step h0 (by omega)
    rw [← ho] at hst
    refine x_then ?_
    exact ⟨arcs.length - (i + 1).toNat, by omega, (fun k_ : Nat => List.getD [.int .i64 n, .slice (some ad8) arcs.length c, undef, undef, .pointer none, .int .i64 0, .slice A11 xs14.length c12, .int .i64 (i + 1), .slice (some ⟨g1, 0, none⟩) 0 0, .int .i64 i, .slice (some ad8) arcs.length c, .int .i64 (arcs.length : Int), .bool true, .int .i64 i, .int .i64 (i + 1), .slice Ao os.length co, .slice (some ad8) arcs.length c, .int .i64 i, .pointer (some (ad8.add (i.toNat * 2))), .pointer (some (ad8.add (i.toNat * 2))), .int .i64 ((gx arcs i).1), .slice (some ad8) arcs.length c, .int .i64 i, .pointer (some (ad8.add (i.toNat * 2))), .pointer (some ((ad8.add (i.toNat * 2)).add 1)), .int .i64 ((gx arcs i).2), .agg #[.int .i64 ((gx arcs i).1), .int .i64 ((gx arcs i).2)], .slice (some ⟨g9, 0, none⟩) 1 1, .slice A11 xs14.length c12, undef, undef, undef, undef, undef] k_ undef), i + 1, A11, c12, xs14, congrArg Fr (by kernel_rfl), rfl, by omega, by omega, by rw [hst, xs14_], by omega, HS⟩
  · skip
    have hre : arcs = os := by rw [ho, List.take_of_length_le (by omega)]
    refine ql (.bool false) (by kernel_rfl) (R_nbool (p := i < (arcs.length : Int)) (by kernel_rfl) (hc6)) ?_
    refine wpList_nil ?_
    refine x_then ?_
    refine wp_cond_false (by kernel_rfl) ?_
    refine wp_exit ?_
    refine x_thenE ?_
    refine x_thenE ?_
    refine x_hit ?_
    refine x_then ?_
    refine wp_seq ?_
    refine wp_region_lit ?_
    refine ql (.int .i64 n) (by kernel_rfl) (by kernel_rfl) ?_
    refine ql (.slice Ao os.length co) (by kernel_rfl) (by kernel_rfl) ?_
    refine qc (f := 49) (args := #[.int .i64 n, .slice Ao os.length co]) (by kernel_rfl) (R_call #[.int .i64 n, .slice Ao os.length co] Try.func49 (by kernel_rfl) (by kernel_rfl) (by kernel_rfl)) ?_
    refine (new_calls n _ _ os _ (Rd.row HS (i := 0) rfl) (by omega)).mono ?_
    rintro e W15 HNP
    subst hre
    rcases HNP with ⟨hc, g, N, hn, rfl, H_, hG⟩ | ⟨hc, rfl, H_⟩
    · refine ⟨_, rfl, ?_⟩
      replace HS : St W (owns []) W15 [row Ao arcs.length co (cf arcC arcs) 35 2] := HS.join (F := []) (G := []) H_
      clear H_
      refine ql (.pointer (some ⟨g, 0, none⟩)) (by kernel_rfl) (by kernel_rfl) ?_
      refine ql (.int .i64 0) (by kernel_rfl) (by kernel_rfl) ?_
      refine ql (.pointer (some ⟨g, 0, none⟩)) (by kernel_rfl) (by kernel_rfl) ?_
      refine ql (.int .i64 0) (by kernel_rfl) (by kernel_rfl) ?_
      refine wpList_nil ?_
      refine x_then ?_
      refine wp_ret ?_
      refine ret_ (.tuple #[.pointer (some ⟨g, 0, none⟩), .int .i64 0]) (by kernel_rfl) ?_
      replace HS := HS.drop1
      exact .inl ⟨hc, g, N, hn, rfl, HS, hG⟩
    · refine ⟨_, rfl, ?_⟩
      replace HS : St W (owns []) W15 [row Ao arcs.length co (cf arcC arcs) 35 2] := HS.join (F := []) (G := []) H_
      clear H_
      refine ql (.pointer none) (by kernel_rfl) (by kernel_rfl) ?_
      refine ql (.int .i64 (chk n arcs)) (by kernel_rfl) (by kernel_rfl) ?_
      refine ql (.pointer none) (by kernel_rfl) (by kernel_rfl) ?_
      refine ql (.int .i64 (chk n arcs)) (by kernel_rfl) (by kernel_rfl) ?_
      refine wpList_nil ?_
      refine x_then ?_
      refine wp_ret ?_
      refine ret_ (.tuple #[.pointer none, .int .i64 (chk n arcs)]) (by kernel_rfl) ?_
      replace HS := HS.drop1
      exact .inr ⟨hc, rfl, HS⟩


theorem of_yes (N : Nat) (A : Option Addr) (c : Nat) (arcs : List (Int × Int)) (W : World) (hr : Rd W A (cf arcC arcs)) (hl : arcs.length ≤ 1048576) (h : chk (N : Int) arcs = 0) : Calls Try.prog 13 #[.int .i64 (N : Int), .slice A arcs.length c] W fun e W' => ∃ g, e = .returned (.tuple #[.pointer (some ⟨g, 0, none⟩), .int .i64 0]) ∧ St W (owns []) W' [] ∧ GAt W' g N arcs := by
  refine (of_calls (N : Int) A c arcs W hr hl).mono ?_
  rintro e W' (⟨_, g, N', hN, he, hs, hG⟩ | ⟨hc, _⟩)
  · obtain rfl : N = N' := by omega
    exact ⟨g, he, hs, hG⟩
  · exact absurd h hc
theorem same_eq (A B : Option Addr) (c d : Nat) (xs ys : List Int) (W : World) (he : xs = ys) (hr : Rd W A (ci .i64 xs)) (hs : Rd W B (ci .i64 ys)) (hl : xs.length ≤ 1099511627776) : Calls Try.prog 23 #[.slice A xs.length c, .slice B ys.length d] W fun e W' => e = .returned (.bool true) ∧ St W (owns []) W' [] := by
  subst he; exact same_t A B c d xs W hr hs hl
theorem in_yes (g N : Nat) (arcs : List (Int × Int)) (W : World) (hG : GAt W g N arcs) (v : Int) (h0 : 0 ≤ v) (h1 : v < N) : Calls Try.prog 20 #[.pointer (some ⟨g, 0, none⟩), .int .i64 v] W fun e W' => ∃ A' c', e = .returned (.slice A' (idxs (keys true arcs) v).length c') ∧ St W (owns []) W' [row A' (idxs (keys true arcs) v).length c' (ci .i64 (idxs (keys true arcs) v)) 3 1] :=
  (in_some g N arcs W hG v).mono fun e W' h => h.elim (fun ⟨_, _, x⟩ => x) (fun ⟨hn, _⟩ => absurd ⟨h0, h1⟩ hn)

set_option maxRecDepth 100000 in
set_option maxHeartbeats 1000000 in
theorem qlen (g n : Nat) (W : World) (hc : W.cell? ⟨g, 2, none⟩ = some (.int .i64 (n : Int))) : Calls Try.prog 52 #[.pointer (some ⟨g, 0, none⟩)] W fun e W' => e = .returned (.int .i64 (n : Int)) ∧ St W (owns []) W' [] := by
  have HS : St W (owns []) W [] := St.start W _
  refine calls_enter [.pointer (some ⟨g, 0, none⟩), undef, undef, undef, undef, undef, undef, undef, undef] Try.func52 rfl (by kernel_rfl) ?_
  refine wp_seq ?_
  refine wp_region_lit ?_
  refine ql (.int .i64 0) (by kernel_rfl) (by kernel_rfl) ?_
  refine wpList_nil ?_
  refine x_then ?_
  refine wp_seq ?_
  refine wp_seq ?_
  refine wp_region_lit ?_
  refine ql (.pointer (some ⟨g, 0, none⟩)) (by kernel_rfl) (by kernel_rfl) ?_
  refine ql (.bool false) (by kernel_rfl) (by kernel_rfl) ?_
  refine wpList_nil ?_
  refine x_then ?_
  refine wp_cond_false (by kernel_rfl) ?_
  refine wp_skip ?_
  refine x_then ?_
  refine wp_seq ?_
  refine wp_region_lit ?_
  refine ql (.pointer (some ⟨g, 0, none⟩)) (by kernel_rfl) (by kernel_rfl) ?_
  refine ql (.pointer (some ⟨g, 0, none⟩)) (by kernel_rfl) (by kernel_rfl) ?_
  refine ql (.pointer (some ⟨g, 2, none⟩)) (by kernel_rfl) (by kernel_rfl) ?_
  refine ql (.int .i64 (n : Int)) (by kernel_rfl) (R_load (p := ⟨g, 2, none⟩) (by kernel_rfl) (by kernel_rfl) (by kernel_rfl) (HS.old0 hc)) ?_
  refine ql (.int .i64 (n : Int)) (by kernel_rfl) (by kernel_rfl) ?_
  refine wpList_nil ?_
  refine x_then ?_
  refine wp_ret ?_
  refine ret_ (.int .i64 (n : Int)) (by kernel_rfl) ?_
  exact ⟨rfl, HS⟩

set_option maxRecDepth 100000 in
set_option maxHeartbeats 1000000 in
theorem qpop_some (g tb : Nat) (rest : List Value) (A : Option Addr) (c f n : Nat) (bs xs : List Int) (W : World) (M : Nat → Prop) (HS : St W M W [blk g ((.slice A bs.length c) :: (.int .i64 (f : Int)) :: (.int .i64 (n : Int)) :: rest) tb, row A bs.length c (ci .i64 bs) 3 1]) (hq : RQ bs f n xs) (hn : 0 < xs.length) : Calls Try.prog 53 #[.pointer (some ⟨g, 0, none⟩)] W fun e W' => ∃ (A' : Option Addr) (c' f' : Nat) (bs' : List Int), e = .returned (.tuple #[.int .i64 (rdI xs 0), .bool true]) ∧ St W M W' [blk g ((.slice A' bs'.length c') :: (.int .i64 (f' : Int)) :: (.int .i64 ((n - 1 : Nat) : Int)) :: rest) tb, row A' bs'.length c' (ci .i64 bs') 3 1] ∧ RQ bs' f' (n - 1) xs.tail := by
  have hlen := hq.len
  have hqn := hq.hn
  have hqb := hq.hb
  have hqf := hq.hf
  refine calls_enter ((.pointer (some ⟨g, 0, none⟩)) :: undef :: undef :: undef :: undef :: undef :: undef :: undef :: undef :: undef :: undef :: undef :: undef :: undef :: undef :: undef :: undef :: undef :: undef :: undef :: undef :: undef :: undef :: undef :: undef :: undef :: undef :: undef :: undef :: undef :: undef :: undef :: undef :: undef :: undef :: undef :: undef :: undef :: undef :: undef :: undef :: undef :: undef :: undef :: undef :: undef :: undef :: undef :: undef :: undef :: undef :: undef :: []) Try.func53 rfl (by kernel_rfl) ?_
  refine wp_seq ?_
  refine wp_region_lit ?_
  refine ql (.int .i64 0) (by kernel_rfl) (by kernel_rfl) ?_
  refine ql (.bool false) (by kernel_rfl) (by kernel_rfl) ?_
  refine wpList_nil ?_
  refine x_then ?_
  refine wp_seq ?_
  refine wp_region_lit ?_
  refine ql (.int .i64 0) (by kernel_rfl) (by kernel_rfl) ?_
  refine wpList_nil ?_
  refine x_then ?_
  refine wp_seq ?_
  refine wp_seq ?_
  refine wp_region_lit ?_
  refine ql (.pointer (some ⟨g, 0, none⟩)) (by kernel_rfl) (by kernel_rfl) ?_
  refine qc (f := 52) (args := #[.pointer (some ⟨g, 0, none⟩)]) (by kernel_rfl) (R_call #[.pointer (some ⟨g, 0, none⟩)] Try.func52 (by kernel_rfl) (by kernel_rfl) (by kernel_rfl)) ?_
  refine (qlen g n _ (HS.cell (i := 0) (j := 2) rfl rfl)).mono ?_
  rintro e W1 ⟨rfl, H_⟩
  refine ⟨_, rfl, ?_⟩
  replace HS : St W M W1 [blk g ((.slice A bs.length c) :: (.int .i64 (f : Int)) :: (.int .i64 (n : Int)) :: rest) tb, row A bs.length c (ci .i64 bs) 3 1] := HS.join (F := []) (G := []) H_
  clear H_
  refine ql (.bool false) (by kernel_rfl) (R_beq (b := ((n : Int) == (0 : Int))) (by kernel_rfl) (beq_f (by omega))) ?_
  refine wpList_nil ?_
  refine x_then ?_
  refine wp_cond_false (by kernel_rfl) ?_
  refine wp_skip ?_
  refine x_then ?_
  refine wp_seq ?_
  refine rg_still HS 10 (by kernel_rfl) (by kernel_rfl) ?_
  intro W2 H_ HK_
  simp only [List.take_succ_cons, List.take_zero, List.drop_succ_cons, List.drop_zero]
  replace HS : St W M W2 [blk g ((.slice A bs.length c) :: (.int .i64 (f : Int)) :: (.int .i64 (n : Int)) :: rest) tb, row A bs.length c (ci .i64 bs) 3 1] := H_
  clear H_
  clear HK_
  refine qs (.pointer (some ⟨g, 0, none⟩)) (by kernel_rfl) (by kernel_rfl) ?_
  refine qs (.pointer (some ⟨g, 0, none⟩)) (by kernel_rfl) (by kernel_rfl) ?_
  refine qs (.pointer (some ⟨g, 0, none⟩)) (by kernel_rfl) (by kernel_rfl) ?_
  refine qs (.slice A bs.length c) (by kernel_rfl) (R_load (p := ⟨g, 0, none⟩) (by kernel_rfl) (by kernel_rfl) (by kernel_rfl) (HS.cell (i := 0) (j := 0) rfl rfl)) ?_
  refine qs (.pointer (some ⟨g, 0, none⟩)) (by kernel_rfl) (by kernel_rfl) ?_
  refine qs (.pointer (some ⟨g, 0, none⟩)) (by kernel_rfl) (by kernel_rfl) ?_
  refine qs (.pointer (some ⟨g, 1, none⟩)) (by kernel_rfl) (by kernel_rfl) ?_
  refine qs (.int .i64 (f : Int)) (by kernel_rfl) (R_load (p := ⟨g, 1, none⟩) (by kernel_rfl) (by kernel_rfl) (by kernel_rfl) (HS.cell (i := 0) (j := 1) rfl rfl)) ?_
  obtain ⟨g3, rfl⟩ := St.rsome HS (i := 1) rfl (by omega)
  refine qs (.pointer (some ⟨g3, (f : Int).toNat, none⟩)) (by kernel_rfl) (R_index1 (k := .i64) (g := g3) (n := bs.length) (c := c) (i := (f : Int)) (by kernel_rfl) (by kernel_rfl) Try.underlying28 (by kernel_rfl) (by omega) (by omega)) ?_
  refine qs (.int .i64 (rdI bs (f : Int))) (by kernel_rfl) (R_load (p := ⟨g3, (f : Int).toNat, none⟩) (by kernel_rfl) (by kernel_rfl) (by kernel_rfl) (HS.rcell (i := 1) rfl (ci_rd (by omega) (by omega)))) ?_
  refine wpStill_nil ?_
  refine ql (.int .i64 (rdI bs (f : Int))) (by kernel_rfl) (by kernel_rfl) ?_
  refine wpList_nil ?_
  refine x_then ?_
  refine wp_seq ?_
  refine rg_still HS 10 (by kernel_rfl) (by kernel_rfl) ?_
  intro W4 H_ HK_
  simp only [List.take_succ_cons, List.take_zero, List.drop_succ_cons, List.drop_zero]
  replace HS : St W M W4 [blk g ((.slice (some ⟨g3, 0, none⟩) bs.length c) :: (.int .i64 (f : Int)) :: (.int .i64 (n : Int)) :: rest) tb, row (some ⟨g3, 0, none⟩) bs.length c (ci .i64 bs) 3 1] := H_
  clear H_
  clear HK_
  refine qs (.pointer (some ⟨g, 0, none⟩)) (by kernel_rfl) (by kernel_rfl) ?_
  refine qs (.pointer (some ⟨g, 0, none⟩)) (by kernel_rfl) (by kernel_rfl) ?_
  refine qs (.pointer (some ⟨g, 0, none⟩)) (by kernel_rfl) (by kernel_rfl) ?_
  refine qs (.slice (some ⟨g3, 0, none⟩) bs.length c) (by kernel_rfl) (R_load (p := ⟨g, 0, none⟩) (by kernel_rfl) (by kernel_rfl) (by kernel_rfl) (HS.cell (i := 0) (j := 0) rfl rfl)) ?_
  refine qs (.pointer (some ⟨g, 0, none⟩)) (by kernel_rfl) (by kernel_rfl) ?_
  refine qs (.pointer (some ⟨g, 0, none⟩)) (by kernel_rfl) (by kernel_rfl) ?_
  refine qs (.pointer (some ⟨g, 1, none⟩)) (by kernel_rfl) (by kernel_rfl) ?_
  refine qs (.int .i64 (f : Int)) (by kernel_rfl) (R_load (p := ⟨g, 1, none⟩) (by kernel_rfl) (by kernel_rfl) (by kernel_rfl) (HS.cell (i := 0) (j := 1) rfl rfl)) ?_
  refine qs (.int .i64 0) (by kernel_rfl) (by kernel_rfl) ?_
  refine qs (.pointer (some ⟨g3, (f : Int).toNat, none⟩)) (by kernel_rfl) (R_index1 (k := .i64) (g := g3) (n := bs.length) (c := c) (i := (f : Int)) (by kernel_rfl) (by kernel_rfl) Try.underlying28 (by kernel_rfl) (by omega) (by omega)) ?_
  refine wpStill_nil ?_
  refine kr (v := .int .i64 0) HS 1 rfl ((f : Int).toNat) [.int .i64 0] (by kernel_rfl) (by kernel_rfl) (by kernel_rfl) (by kernel_rfl) (by kernel_rfl) (one_ (by kernel_rfl)) (by rw [ci_len]; first | omega | (simp only [List.length_singleton]; omega)) rfl ?_
  intro W5 H_
  obtain ⟨xs6, xs6_⟩ : ∃ z_ : List Int, z_ = (bs).set (f : Int).toNat 0 := ⟨_, rfl⟩
  replace HS : St W M W5 [blk g ((.slice (some ⟨g3, 0, none⟩) bs.length c) :: (.int .i64 (f : Int)) :: (.int .i64 (n : Int)) :: rest) tb, row (some ⟨g3, 0, none⟩) bs.length c (ci .i64 xs6) 3 1] := H_.cast_ (by rw [xs6_, ← ci_set]; rfl)
  clear H_
  have xs6l : xs6.length = bs.length := by rw [xs6_, List.length_set]; first | done | omega
  refine wpList_nil ?_
  refine x_then ?_
  refine wp_seq ?_
  refine rg_still HS 14 (by kernel_rfl) (by kernel_rfl) ?_
  intro W7 H_ HK_
  simp only [List.take_succ_cons, List.take_zero, List.drop_succ_cons, List.drop_zero]
  replace HS : St W M W7 [blk g ((.slice (some ⟨g3, 0, none⟩) bs.length c) :: (.int .i64 (f : Int)) :: (.int .i64 (n : Int)) :: rest) tb, row (some ⟨g3, 0, none⟩) bs.length c (ci .i64 xs6) 3 1] := H_
  clear H_
  clear HK_
  refine qs (.pointer (some ⟨g, 0, none⟩)) (by kernel_rfl) (by kernel_rfl) ?_
  refine qs (.pointer (some ⟨g, 0, none⟩)) (by kernel_rfl) (by kernel_rfl) ?_
  refine qs (.pointer (some ⟨g, 0, none⟩)) (by kernel_rfl) (by kernel_rfl) ?_
  refine qs (.pointer (some ⟨g, 1, none⟩)) (by kernel_rfl) (by kernel_rfl) ?_
  refine qs (.int .i64 (f : Int)) (by kernel_rfl) (R_load (p := ⟨g, 1, none⟩) (by kernel_rfl) (by kernel_rfl) (by kernel_rfl) (HS.cell (i := 0) (j := 1) rfl rfl)) ?_
  refine qs (.int .i64 ((f : Int) + 1)) (by kernel_rfl) (R_int (by kernel_rfl) (w64 (by omega))) ?_
  refine qs (.pointer (some ⟨g, 0, none⟩)) (by kernel_rfl) (by kernel_rfl) ?_
  refine qs (.pointer (some ⟨g, 0, none⟩)) (by kernel_rfl) (by kernel_rfl) ?_
  refine qs (.pointer (some ⟨g, 0, none⟩)) (by kernel_rfl) (by kernel_rfl) ?_
  refine qs (.slice (some ⟨g3, 0, none⟩) bs.length c) (by kernel_rfl) (R_load (p := ⟨g, 0, none⟩) (by kernel_rfl) (by kernel_rfl) (by kernel_rfl) (HS.cell (i := 0) (j := 0) rfl rfl)) ?_
  refine qs (.int .i64 (bs.length : Int)) (by kernel_rfl) (by kernel_rfl) ?_
  obtain ⟨f2, f2_⟩ : ∃ z_ : Nat, z_ = (f + 1) % bs.length := ⟨_, rfl⟩
  have f2l : f2 < bs.length := by rw [f2_]; exact Nat.mod_lt _ (by omega)
  refine qs (.int .i64 (f2 : Int)) (by kernel_rfl) (R_eq (R_rem (i := f + 1) (j := bs.length) (by kernel_rfl) (by kernel_rfl) (by omega) (by omega)) (by rw [← f2_])) ?_
  refine qs (.pointer (some ⟨g, 0, none⟩)) (by kernel_rfl) (by kernel_rfl) ?_
  refine qs (.pointer (some ⟨g, 1, none⟩)) (by kernel_rfl) (by kernel_rfl) ?_
  refine wpStill_nil ?_
  refine ks (v := .int .i64 (f2 : Int)) HS 0 rfl (1) [.int .i64 (f2 : Int)] (by kernel_rfl) (by kernel_rfl) (by kernel_rfl) (by kernel_rfl) (by kernel_rfl) (one_ (by kernel_rfl)) (Nat.le_of_ble_eq_true rfl) rfl ?_
  intro W8 H_
  replace HS : St W M W8 [blk g ((.slice (some ⟨g3, 0, none⟩) bs.length c) :: (.int .i64 (f2 : Int)) :: (.int .i64 (n : Int)) :: rest) tb, row (some ⟨g3, 0, none⟩) bs.length c (ci .i64 xs6) 3 1] := H_
  clear H_
  refine wpList_nil ?_
  refine x_then ?_
  refine wp_seq ?_
  refine wp_region_lit ?_
  refine ql (.pointer (some ⟨g, 0, none⟩)) (by kernel_rfl) (by kernel_rfl) ?_
  refine ql (.pointer (some ⟨g, 0, none⟩)) (by kernel_rfl) (by kernel_rfl) ?_
  refine ql (.pointer (some ⟨g, 2, none⟩)) (by kernel_rfl) (by kernel_rfl) ?_
  refine ql (.int .i64 (n : Int)) (by kernel_rfl) (R_load (p := ⟨g, 2, none⟩) (by kernel_rfl) (by kernel_rfl) (by kernel_rfl) (HS.cell (i := 0) (j := 2) rfl rfl)) ?_
  refine ql (.int .i64 ((n : Int) - 1)) (by kernel_rfl) (R_int (by kernel_rfl) (w64 (by omega))) ?_
  refine ql (.pointer (some ⟨g, 0, none⟩)) (by kernel_rfl) (by kernel_rfl) ?_
  refine ql (.pointer (some ⟨g, 2, none⟩)) (by kernel_rfl) (by kernel_rfl) ?_
  refine ks (v := .int .i64 ((n : Int) - 1)) HS 0 rfl (2) [.int .i64 ((n : Int) - 1)] (by kernel_rfl) (by kernel_rfl) (by kernel_rfl) (by kernel_rfl) (by kernel_rfl) (one_ (by kernel_rfl)) (Nat.le_of_ble_eq_true rfl) rfl ?_
  intro W9 H_
  replace HS : St W M W9 [blk g ((.slice (some ⟨g3, 0, none⟩) bs.length c) :: (.int .i64 (f2 : Int)) :: (.int .i64 ((n : Int) - 1)) :: rest) tb, row (some ⟨g3, 0, none⟩) bs.length c (ci .i64 xs6) 3 1] := H_
  clear H_
  refine wpList_nil ?_
  refine x_then ?_
  refine wp_seq ?_
  refine wp_region_lit ?_
  refine ql (.int .i64 (rdI bs (f : Int))) (by kernel_rfl) (by kernel_rfl) ?_
  refine ql (.int .i64 (rdI bs (f : Int))) (by kernel_rfl) (by kernel_rfl) ?_
  refine ql (.bool true) (by kernel_rfl) (by kernel_rfl) ?_
  refine wpList_nil ?_
  refine x_then ?_
  refine wp_ret ?_
  refine ret_ (.tuple #[.int .i64 (rdI bs (f : Int)), .bool true]) (by kernel_rfl) ?_
  have hqp := hq.pop (by omega) (q := xs6) (by rw [xs6_]; rfl)
  rw [← f2_] at hqp
  have hn2 : (n : Int) - 1 = ((n - 1 : Nat) : Int) := by omega
  rw [hn2, ← xs6l] at HS
  have hv : rdI bs (f : Int) = rdI xs 0 := by rw [hqp.1]; unfold rdI; rfl
  exact ⟨_, _, f2, _, by rw [hv], HS, hqp.2⟩

set_option maxRecDepth 100000 in
set_option maxHeartbeats 1000000 in
theorem qpush (g tb : Nat) (rest : List Value) (A0 B : Option Addr) (c0 d f0 n0 : Nat) (bs0 xs0 ys : List Int) (W : World) (M : Nat → Prop) (HS : St W M W [blk g ((.slice A0 bs0.length c0) :: (.int .i64 (f0 : Int)) :: (.int .i64 (n0 : Int)) :: rest) tb, row A0 bs0.length c0 (ci .i64 bs0) 3 1, row B ys.length d (ci .i64 ys) 3 1]) (hq0 : RQ bs0 f0 n0 xs0) (hl : xs0.length + ys.length ≤ 1099511627776) : Calls Try.prog 51 #[.pointer (some ⟨g, 0, none⟩), .slice B ys.length d] W fun e W' => ∃ (A' : Option Addr) (c' f' n' : Nat) (bs' : List Int), e = .returned (.tuple #[]) ∧ St W M W' [blk g ((.slice A' bs'.length c') :: (.int .i64 (f' : Int)) :: (.int .i64 (n' : Int)) :: rest) tb, row A' bs'.length c' (ci .i64 bs') 3 1] ∧ RQ bs' f' n' (xs0 ++ ys) := by
  refine calls_enter ((.pointer (some ⟨g, 0, none⟩)) :: (.slice B ys.length d) :: undef :: undef :: undef :: undef :: undef :: undef :: undef :: undef :: undef :: undef :: undef :: undef :: undef :: undef :: undef :: undef :: undef :: undef :: undef :: undef :: undef :: undef :: undef :: undef :: undef :: undef :: undef :: undef :: undef :: undef :: undef :: undef :: undef :: undef :: undef :: undef :: undef :: undef :: undef :: undef :: undef :: undef :: undef :: undef :: undef :: undef :: undef :: undef :: undef :: undef :: undef :: undef :: undef :: undef :: undef :: undef :: undef :: undef :: undef :: undef :: undef :: undef :: undef :: undef :: undef :: undef :: undef :: undef :: undef :: undef :: undef :: undef :: undef :: undef :: undef :: undef :: undef :: undef :: undef :: undef :: undef :: undef :: undef :: undef :: undef :: undef :: undef :: undef :: undef :: undef :: undef :: []) Try.func51 rfl (by kernel_rfl) ?_
  refine wp_seq ?_
  refine wp_seq ?_
  refine wp_region_lit ?_
  refine ql (.pointer (some ⟨g, 0, none⟩)) (by kernel_rfl) (by kernel_rfl) ?_
  refine ql (.bool false) (by kernel_rfl) (by kernel_rfl) ?_
  refine wpList_nil ?_
  refine x_then ?_
  refine wp_cond_false (by kernel_rfl) ?_
  refine wp_skip ?_
  refine x_then ?_
  refine wp_seq ?_
  refine wp_region_lit ?_
  refine ql (.slice B ys.length d) (by kernel_rfl) (by kernel_rfl) ?_
  refine ql (.int .i64 (ys.length : Int)) (by kernel_rfl) (by kernel_rfl) ?_
  refine ql (.int .i64 0) (by kernel_rfl) (by kernel_rfl) ?_
  refine wpList_nil ?_
  refine x_then ?_
  refine wp_block ?_
  refine wp_loop_ghost (fun kq a' w' => ∃ (J1 : Nat → Value) (i : Int) (A : Option Addr) (c : Nat) (f : Nat) (n : Nat) (bs : List Int) , a' = Fr ((.pointer (some ⟨g, 0, none⟩)) :: (.slice B ys.length d) :: undef :: undef :: undef :: ((J1 5)) :: ((J1 6)) :: ((J1 7)) :: (.pointer (some ⟨g, 0, none⟩)) :: (.bool false) :: (.slice B ys.length d) :: (.int .i64 (ys.length : Int)) :: (.int .i64 i) :: ((J1 13)) :: ((J1 14)) :: ((J1 15)) :: ((J1 16)) :: ((J1 17)) :: ((J1 18)) :: ((J1 19)) :: ((J1 20)) :: ((J1 21)) :: ((J1 22)) :: ((J1 23)) :: ((J1 24)) :: ((J1 25)) :: ((J1 26)) :: ((J1 27)) :: ((J1 28)) :: ((J1 29)) :: ((J1 30)) :: ((J1 31)) :: ((J1 32)) :: ((J1 33)) :: ((J1 34)) :: ((J1 35)) :: ((J1 36)) :: ((J1 37)) :: ((J1 38)) :: ((J1 39)) :: ((J1 40)) :: ((J1 41)) :: ((J1 42)) :: ((J1 43)) :: ((J1 44)) :: ((J1 45)) :: ((J1 46)) :: ((J1 47)) :: ((J1 48)) :: ((J1 49)) :: ((J1 50)) :: ((J1 51)) :: ((J1 52)) :: ((J1 53)) :: ((J1 54)) :: ((J1 55)) :: ((J1 56)) :: ((J1 57)) :: ((J1 58)) :: ((J1 59)) :: ((J1 60)) :: ((J1 61)) :: ((J1 62)) :: ((J1 63)) :: ((J1 64)) :: ((J1 65)) :: ((J1 66)) :: ((J1 67)) :: ((J1 68)) :: ((J1 69)) :: ((J1 70)) :: ((J1 71)) :: ((J1 72)) :: ((J1 73)) :: ((J1 74)) :: ((J1 75)) :: ((J1 76)) :: ((J1 77)) :: ((J1 78)) :: ((J1 79)) :: ((J1 80)) :: ((J1 81)) :: ((J1 82)) :: ((J1 83)) :: ((J1 84)) :: ((J1 85)) :: ((J1 86)) :: ((J1 87)) :: ((J1 88)) :: ((J1 89)) :: ((J1 90)) :: ((J1 91)) :: ((J1 92)) :: []) ∧ kq = (ys.length - (i).toNat) ∧ (0 ≤ i) ∧ (i ≤ ys.length) ∧ (RQ bs f n (xs0 ++ ys.take (i).toNat)) ∧ St W M w' [blk g ((.slice A bs.length c) :: (.int .i64 (f : Int)) :: (.int .i64 (n : Int)) :: rest) tb, row A bs.length c (ci .i64 bs) 3 1, row B ys.length d (ci .i64 ys) 3 1]) (ys.length - ((0 : Int)).toNat) ⟨(fun k_ : Nat => List.getD ((.pointer (some ⟨g, 0, none⟩)) :: (.slice B ys.length d) :: undef :: undef :: undef :: undef :: undef :: undef :: (.pointer (some ⟨g, 0, none⟩)) :: (.bool false) :: (.slice B ys.length d) :: (.int .i64 (ys.length : Int)) :: (.int .i64 0) :: undef :: undef :: undef :: undef :: undef :: undef :: undef :: undef :: undef :: undef :: undef :: undef :: undef :: undef :: undef :: undef :: undef :: undef :: undef :: undef :: undef :: undef :: undef :: undef :: undef :: undef :: undef :: undef :: undef :: undef :: undef :: undef :: undef :: undef :: undef :: undef :: undef :: undef :: undef :: undef :: undef :: undef :: undef :: undef :: undef :: undef :: undef :: undef :: undef :: undef :: undef :: undef :: undef :: undef :: undef :: undef :: undef :: undef :: undef :: undef :: undef :: undef :: undef :: undef :: undef :: undef :: undef :: undef :: undef :: undef :: undef :: undef :: undef :: undef :: undef :: undef :: undef :: undef :: undef :: undef :: []) k_ undef), (0 : Int), A0, c0, f0, n0, bs0, congrArg Fr (by kernel_rfl), rfl, by omega, by omega, by simpa using hq0, HS⟩ ?_
  clear HS
  intro kq2 a' W3 hrel
  obtain ⟨J1, i, A, c, f, n, bs, rfl, hk, i0, i1, hq, HS⟩ := hrel
  have hlen := hq.len
  have hqn := hq.hn
  have hqb := hq.hb
  have hqf := hq.hf
  have hq0 := hq.h0
  have hxl : (xs0 ++ ys.take i.toNat).length ≤ xs0.length + ys.length := by rw [List.length_append, List.length_take]; omega
  refine wp_seq ?_
  refine wp_region_lit ?_
  by_cases hc4 : i < (ys.length : Int)
  · skip
    refine ql (.bool true) (by kernel_rfl) (R_bool (p := i < (ys.length : Int)) (by kernel_rfl) (hc4)) ?_
    refine wpList_nil ?_
    refine x_then ?_
    refine wp_seq ?_
    refine wp_cond_true (by kernel_rfl) ?_
    refine wp_skip ?_
    refine x_then ?_
    refine wp_seq ?_
    refine wp_block ?_
    refine wp_seq ?_
    refine wp_region_lit ?_
    obtain ⟨g5, rfl⟩ := St.rsome HS (i := 2) rfl (by omega)
    refine ql (.pointer (some ⟨g5, i.toNat, none⟩)) (by kernel_rfl) (R_index1 (k := .i64) (g := g5) (n := ys.length) (c := d) (i := i) (by kernel_rfl) (by kernel_rfl) Try.underlying28 (by kernel_rfl) (by omega) (by omega)) ?_
    refine ql (.int .i64 (rdI ys i)) (by kernel_rfl) (R_load (p := ⟨g5, i.toNat, none⟩) (by kernel_rfl) (by kernel_rfl) (by kernel_rfl) (HS.rcell (i := 2) rfl (ci_rd (by omega) (by omega)))) ?_
    refine ql (.int .i64 (rdI ys i)) (by kernel_rfl) (by kernel_rfl) ?_
    refine wpList_nil ?_
    refine x_then ?_
    refine wp_seq ?_
    refine wp_seq ?_
    refine rg_still HS 9 (by kernel_rfl) (by kernel_rfl) ?_
    intro W6 H_ HK_
    simp only [List.take_succ_cons, List.take_zero, List.drop_succ_cons, List.drop_zero]
    replace HS : St W M W6 [blk g ((.slice A bs.length c) :: (.int .i64 (f : Int)) :: (.int .i64 (n : Int)) :: rest) tb, row A bs.length c (ci .i64 bs) 3 1, row (some ⟨g5, 0, none⟩) ys.length d (ci .i64 ys) 3 1] := H_
    clear H_
    clear HK_
    refine qs (.pointer (some ⟨g, 0, none⟩)) (by kernel_rfl) (by kernel_rfl) ?_
    refine qs (.pointer (some ⟨g, 0, none⟩)) (by kernel_rfl) (by kernel_rfl) ?_
    refine qs (.pointer (some ⟨g, 2, none⟩)) (by kernel_rfl) (by kernel_rfl) ?_
    refine qs (.int .i64 (n : Int)) (by kernel_rfl) (R_load (p := ⟨g, 2, none⟩) (by kernel_rfl) (by kernel_rfl) (by kernel_rfl) (HS.cell (i := 0) (j := 2) rfl rfl)) ?_
    refine qs (.pointer (some ⟨g, 0, none⟩)) (by kernel_rfl) (by kernel_rfl) ?_
    refine qs (.pointer (some ⟨g, 0, none⟩)) (by kernel_rfl) (by kernel_rfl) ?_
    refine qs (.pointer (some ⟨g, 0, none⟩)) (by kernel_rfl) (by kernel_rfl) ?_
    refine qs (.slice A bs.length c) (by kernel_rfl) (R_load (p := ⟨g, 0, none⟩) (by kernel_rfl) (by kernel_rfl) (by kernel_rfl) (HS.cell (i := 0) (j := 0) rfl rfl)) ?_
    refine qs (.int .i64 (bs.length : Int)) (by kernel_rfl) (by kernel_rfl) ?_
    refine wpStill_nil ?_
    by_cases hc7 : (n : Int) = (bs.length : Int)
    · skip
      refine ql (.bool true) (by kernel_rfl) (R_beq (b := ((n : Int) == (bs.length : Int))) (by kernel_rfl) (beq_t (hc7))) ?_
      refine wpList_nil ?_
      refine x_then ?_
      refine wp_cond_true (by kernel_rfl) ?_
      refine wp_seq ?_
      refine wp_region_lit ?_
      refine ql (.pointer (some ⟨g, 0, none⟩)) (by kernel_rfl) (by kernel_rfl) ?_
      refine ql (.pointer (some ⟨g, 0, none⟩)) (by kernel_rfl) (by kernel_rfl) ?_
      refine ql (.pointer (some ⟨g, 2, none⟩)) (by kernel_rfl) (by kernel_rfl) ?_
      refine ql (.int .i64 (n : Int)) (by kernel_rfl) (R_load (p := ⟨g, 2, none⟩) (by kernel_rfl) (by kernel_rfl) (by kernel_rfl) (HS.cell (i := 0) (j := 2) rfl rfl)) ?_
      refine ql (.int .i64 (2 * (n : Int))) (by kernel_rfl) (R_int (by kernel_rfl) (w64 (by omega))) ?_
      obtain ⟨m, hm⟩ : ∃ z_ : Nat, (z_ : Int) = max (4 : Int) (2 * (n : Int)) := ⟨(max (4 : Int) (2 * (n : Int))).toNat, by omega⟩
      have hm1 : 4 ≤ m ∧ 2 * n ≤ m ∧ m ≤ 2199023255556 := by omega
      refine ql (.int .i64 (m : Int)) (by kernel_rfl) (R_eq (R_max (i := 4) (j := 2 * (n : Int)) (by kernel_rfl) (by kernel_rfl)) (by rw [hm])) ?_
      refine km HS (m) [.int .i64 0] 8 (by kernel_rfl) (k_eq (k := .i64) (m := (m : Int)) (by kernel_rfl) (by omega)) (k_eq (k := .i64) (m := (m : Int)) (by kernel_rfl) (by omega)) Try.underlying28 (by kernel_rfl) (by kernel_rfl) (by kernel_rfl) (by decide) (by omega) (by omega) ?_
      intro g8 W9 H_
      replace HS : St W M W9 [row (some ⟨g8, 0, none⟩) m m (ci .i64 (List.replicate (m) 0)) 3 1, blk g ((.slice A bs.length c) :: (.int .i64 (f : Int)) :: (.int .i64 (n : Int)) :: rest) tb, row A bs.length c (ci .i64 bs) 3 1, row (some ⟨g5, 0, none⟩) ys.length d (ci .i64 ys) 3 1] := H_.cast_ (by rw [ci_rep]; rfl)
      clear H_
      have rlg8 : (List.replicate (m) (0 : Int)).length = m := List.length_replicate
      refine ql (.slice (some ⟨g8, 0, none⟩) m m) (by kernel_rfl) (by kernel_rfl) ?_
      refine wpList_nil ?_
      refine x_then ?_
      refine wp_seq ?_
      refine rg_still HS 10 (by kernel_rfl) (by kernel_rfl) ?_
      intro W10 H_ HK_
      simp only [List.take_succ_cons, List.take_zero, List.drop_succ_cons, List.drop_zero]
      replace HS : St W M W10 [row (some ⟨g8, 0, none⟩) m m (ci .i64 (List.replicate (m) 0)) 3 1, blk g ((.slice A bs.length c) :: (.int .i64 (f : Int)) :: (.int .i64 (n : Int)) :: rest) tb, row A bs.length c (ci .i64 bs) 3 1, row (some ⟨g5, 0, none⟩) ys.length d (ci .i64 ys) 3 1] := H_
      clear H_
      clear HK_
      refine qs (.slice (some ⟨g8, 0, none⟩) m m) (by kernel_rfl) (by kernel_rfl) ?_
      refine qs (.pointer (some ⟨g, 0, none⟩)) (by kernel_rfl) (by kernel_rfl) ?_
      refine qs (.pointer (some ⟨g, 0, none⟩)) (by kernel_rfl) (by kernel_rfl) ?_
      refine qs (.pointer (some ⟨g, 0, none⟩)) (by kernel_rfl) (by kernel_rfl) ?_
      refine qs (.slice A bs.length c) (by kernel_rfl) (R_load (p := ⟨g, 0, none⟩) (by kernel_rfl) (by kernel_rfl) (by kernel_rfl) (HS.cell (i := 1) (j := 0) rfl rfl)) ?_
      refine qs (.pointer (some ⟨g, 0, none⟩)) (by kernel_rfl) (by kernel_rfl) ?_
      refine qs (.pointer (some ⟨g, 0, none⟩)) (by kernel_rfl) (by kernel_rfl) ?_
      refine qs (.pointer (some ⟨g, 1, none⟩)) (by kernel_rfl) (by kernel_rfl) ?_
      refine qs (.int .i64 (f : Int)) (by kernel_rfl) (R_load (p := ⟨g, 1, none⟩) (by kernel_rfl) (by kernel_rfl) (by kernel_rfl) (HS.cell (i := 1) (j := 1) rfl rfl)) ?_
      refine qs (.slice (cutA A c f 1) (bs.length - f) (c - f)) (by kernel_rfl) (R_sliceL (k := .i64) (A := A) (n := bs.length) (c := c) (i := (f : Int)) (by kernel_rfl) (by kernel_rfl) Try.underlying28 (by kernel_rfl) (by omega) (by omega)) ?_
      refine wpStill_nil ?_
      refine kcp HS 0 rfl 0 m m (Src.tail (m := f) (Src.of_row HS (i := 2) rfl ci_one) (by omega) (St.rcap HS (i := 2) rfl).1) (by omega) (by rw [ci_len, List.length_replicate]; omega) (by kernel_rfl) (by kernel_rfl) (by kernel_rfl) Try.underlying28 (by kernel_rfl) ?_
      intro W11 H_
      obtain ⟨q1, q1_⟩ : ∃ z_ : List Int, z_ = (List.replicate m (0 : Int)).take 0 ++ bs.drop f ++ (List.replicate m (0 : Int)).drop (0 + (bs.drop f).length) := ⟨_, rfl⟩
      have hsp : splice (ci .i64 (List.replicate m 0)) 0 ((ci .i64 bs).drop f) = ci .i64 q1 := by rw [ci_drop, ci_splice (by rw [List.length_drop, List.length_replicate]; omega), q1_]
      have q1l : q1.length = m := by rw [q1_]; simp; omega
      rw [hsp] at H_
      replace HS : St W M W11 [row (some ⟨g8, 0, none⟩) m m (ci .i64 q1) 3 1, blk g ((.slice A bs.length c) :: (.int .i64 (f : Int)) :: (.int .i64 (n : Int)) :: rest) tb, row A bs.length c (ci .i64 bs) 3 1, row (some ⟨g5, 0, none⟩) ys.length d (ci .i64 ys) 3 1] := H_.cast_ (by rfl)
      clear H_
      refine ql (.int .i64 ((bs.length - f : Nat) : Int)) (by kernel_rfl) (by kernel_rfl) ?_
      refine wpList_nil ?_
      refine x_then ?_
      refine wp_seq ?_
      have hcap := (St.rcap HS (i := 2) rfl).1
      refine rg_still HS 12 (by kernel_rfl) (by kernel_rfl) ?_
      intro W12 H_ HK_
      simp only [List.take_succ_cons, List.take_zero, List.drop_succ_cons, List.drop_zero]
      replace HS : St W M W12 [row (some ⟨g8, 0, none⟩) m m (ci .i64 q1) 3 1, blk g ((.slice A bs.length c) :: (.int .i64 (f : Int)) :: (.int .i64 (n : Int)) :: rest) tb, row A bs.length c (ci .i64 bs) 3 1, row (some ⟨g5, 0, none⟩) ys.length d (ci .i64 ys) 3 1] := H_
      clear H_
      clear HK_
      refine qs (.slice (some ⟨g8, 0, none⟩) m m) (by kernel_rfl) (by kernel_rfl) ?_
      refine qs (.int .i64 ((bs.length - f : Nat) : Int)) (by kernel_rfl) (by kernel_rfl) ?_
      refine qs (.slice (some ⟨g8, (bs.length - f), none⟩) (m - (bs.length - f)) (m - (bs.length - f))) (by kernel_rfl) (R_eq (R_sliceL (k := .i64) (A := some ⟨g8, 0, none⟩) (n := m) (c := m) (i := ((bs.length - f : Nat) : Int)) (by kernel_rfl) (by kernel_rfl) Try.underlying28 (by kernel_rfl) (by omega) (by omega)) (by rw [Int.toNat_natCast, cutA_blk (by omega)])) ?_
      refine qs (.pointer (some ⟨g, 0, none⟩)) (by kernel_rfl) (by kernel_rfl) ?_
      refine qs (.pointer (some ⟨g, 0, none⟩)) (by kernel_rfl) (by kernel_rfl) ?_
      refine qs (.pointer (some ⟨g, 0, none⟩)) (by kernel_rfl) (by kernel_rfl) ?_
      refine qs (.slice A bs.length c) (by kernel_rfl) (R_load (p := ⟨g, 0, none⟩) (by kernel_rfl) (by kernel_rfl) (by kernel_rfl) (HS.cell (i := 1) (j := 0) rfl rfl)) ?_
      refine qs (.pointer (some ⟨g, 0, none⟩)) (by kernel_rfl) (by kernel_rfl) ?_
      refine qs (.pointer (some ⟨g, 0, none⟩)) (by kernel_rfl) (by kernel_rfl) ?_
      refine qs (.pointer (some ⟨g, 1, none⟩)) (by kernel_rfl) (by kernel_rfl) ?_
      refine qs (.int .i64 (f : Int)) (by kernel_rfl) (R_load (p := ⟨g, 1, none⟩) (by kernel_rfl) (by kernel_rfl) (by kernel_rfl) (HS.cell (i := 1) (j := 1) rfl rfl)) ?_
      refine qs (.slice A f c) (by kernel_rfl) (R_sliceH (z := 1) (e := 3) (k := .i64) (A := A) (n := bs.length) (c := c) (i := (f : Int)) (by kernel_rfl) (by kernel_rfl) Try.underlying28 (by kernel_rfl) (by omega) (by omega)) ?_
      refine wpStill_nil ?_
      refine kcp HS 0 rfl (bs.length - f) (m - (bs.length - f)) (m - (bs.length - f)) (Src.head (m := f) (Src.of_row HS (i := 2) rfl ci_one) (by omega)) (by omega) (by rw [ci_len]; omega) (by kernel_rfl) (by kernel_rfl) (by kernel_rfl) Try.underlying28 (by kernel_rfl) ?_
      intro W13 H_
      obtain ⟨q2, q2_⟩ : ∃ z_ : List Int, z_ = q1.take (bs.length - f) ++ bs.take f ++ q1.drop (bs.length - f + (bs.take f).length) := ⟨_, rfl⟩
      have hsp2 : splice (ci .i64 q1) (bs.length - f) ((ci .i64 bs).take f) = ci .i64 q2 := by rw [ci_take', ci_splice (by rw [List.length_take]; omega), q2_]
      have q2l : q2.length = m := by rw [q2_]; simp; omega
      have q2e : q2 = bs.drop f ++ bs.take f ++ List.replicate (m - bs.length) 0 := ring_copy (by omega) (by omega) q1_ q2_
      rw [hsp2] at H_
      replace HS : St W M W13 [row (some ⟨g8, 0, none⟩) m m (ci .i64 q2) 3 1, blk g ((.slice A bs.length c) :: (.int .i64 (f : Int)) :: (.int .i64 (n : Int)) :: rest) tb, row A bs.length c (ci .i64 bs) 3 1, row (some ⟨g5, 0, none⟩) ys.length d (ci .i64 ys) 3 1] := H_.cast_ (by rfl)
      clear H_
      refine wpList_nil ?_
      refine x_then ?_
      refine wp_region_lit ?_
      refine ql (.pointer (some ⟨g, 0, none⟩)) (by kernel_rfl) (by kernel_rfl) ?_
      refine ql (.pointer (some ⟨g, 0, none⟩)) (by kernel_rfl) (by kernel_rfl) ?_
      refine ql (.slice (some ⟨g8, 0, none⟩) m m) (by kernel_rfl) (by kernel_rfl) ?_
      refine ql (.pointer (some ⟨g, 0, none⟩)) (by kernel_rfl) (by kernel_rfl) ?_
      refine ql (.pointer (some ⟨g, 0, none⟩)) (by kernel_rfl) (by kernel_rfl) ?_
      refine ks (v := .slice (some ⟨g8, 0, none⟩) m m) HS 1 rfl (0) [.slice (some ⟨g8, 0, none⟩) m m] (by kernel_rfl) (by kernel_rfl) (by kernel_rfl) (by kernel_rfl) (by kernel_rfl) (one_ (by kernel_rfl)) (Nat.le_of_ble_eq_true rfl) rfl ?_
      intro W14 H_
      replace HS : St W M W14 [row (some ⟨g8, 0, none⟩) m m (ci .i64 q2) 3 1, blk g ((.slice (some ⟨g8, 0, none⟩) m m) :: (.int .i64 (f : Int)) :: (.int .i64 (n : Int)) :: rest) tb, row A bs.length c (ci .i64 bs) 3 1, row (some ⟨g5, 0, none⟩) ys.length d (ci .i64 ys) 3 1] := H_
      clear H_
      refine ql (.pointer (some ⟨g, 0, none⟩)) (by kernel_rfl) (by kernel_rfl) ?_
      refine ql (.pointer (some ⟨g, 1, none⟩)) (by kernel_rfl) (by kernel_rfl) ?_
      refine ks (v := .int .i64 0) HS 1 rfl (1) [.int .i64 0] (by kernel_rfl) (by kernel_rfl) (by kernel_rfl) (by kernel_rfl) (by kernel_rfl) (one_ (by kernel_rfl)) (Nat.le_of_ble_eq_true rfl) rfl ?_
      intro W15 H_
      replace HS : St W M W15 [row (some ⟨g8, 0, none⟩) m m (ci .i64 q2) 3 1, blk g ((.slice (some ⟨g8, 0, none⟩) m m) :: (.int .i64 0) :: (.int .i64 (n : Int)) :: rest) tb, row A bs.length c (ci .i64 bs) 3 1, row (some ⟨g5, 0, none⟩) ys.length d (ci .i64 ys) 3 1] := H_
      clear H_
      refine wpList_nil ?_
      refine x_then ?_
      refine wp_seq ?_
      subst q2l
      have hqg := hq.grow (by omega) q2e (by omega) (by omega)
      refine rg_still HS 21 (by kernel_rfl) (by kernel_rfl) ?_
      intro W16 H_ HK_
      simp only [List.take_succ_cons, List.take_zero, List.drop_succ_cons, List.drop_zero]
      replace HS : St W M W16 [row (some ⟨g8, 0, none⟩) q2.length q2.length (ci .i64 q2) 3 1, blk g ((.slice (some ⟨g8, 0, none⟩) q2.length q2.length) :: (.int .i64 0) :: (.int .i64 (n : Int)) :: rest) tb, row A bs.length c (ci .i64 bs) 3 1, row (some ⟨g5, 0, none⟩) ys.length d (ci .i64 ys) 3 1] := H_
      clear H_
      clear HK_
      refine qs (.pointer (some ⟨g, 0, none⟩)) (by kernel_rfl) (by kernel_rfl) ?_
      refine qs (.pointer (some ⟨g, 0, none⟩)) (by kernel_rfl) (by kernel_rfl) ?_
      refine qs (.pointer (some ⟨g, 0, none⟩)) (by kernel_rfl) (by kernel_rfl) ?_
      refine qs (.slice (some ⟨g8, 0, none⟩) q2.length q2.length) (by kernel_rfl) (R_load (p := ⟨g, 0, none⟩) (by kernel_rfl) (by kernel_rfl) (by kernel_rfl) (HS.cell (i := 1) (j := 0) rfl rfl)) ?_
      refine qs (.pointer (some ⟨g, 0, none⟩)) (by kernel_rfl) (by kernel_rfl) ?_
      refine qs (.pointer (some ⟨g, 0, none⟩)) (by kernel_rfl) (by kernel_rfl) ?_
      refine qs (.pointer (some ⟨g, 1, none⟩)) (by kernel_rfl) (by kernel_rfl) ?_
      refine qs (.int .i64 0) (by kernel_rfl) (R_load (p := ⟨g, 1, none⟩) (by kernel_rfl) (by kernel_rfl) (by kernel_rfl) (HS.cell (i := 1) (j := 1) rfl rfl)) ?_
      refine qs (.pointer (some ⟨g, 0, none⟩)) (by kernel_rfl) (by kernel_rfl) ?_
      refine qs (.pointer (some ⟨g, 0, none⟩)) (by kernel_rfl) (by kernel_rfl) ?_
      refine qs (.pointer (some ⟨g, 2, none⟩)) (by kernel_rfl) (by kernel_rfl) ?_
      refine qs (.int .i64 (n : Int)) (by kernel_rfl) (R_load (p := ⟨g, 2, none⟩) (by kernel_rfl) (by kernel_rfl) (by kernel_rfl) (HS.cell (i := 1) (j := 2) rfl rfl)) ?_
      refine qs (.int .i64 (0 + (n : Int))) (by kernel_rfl) (R_int (by kernel_rfl) (w64 (by omega))) ?_
      refine qs (.pointer (some ⟨g, 0, none⟩)) (by kernel_rfl) (by kernel_rfl) ?_
      refine qs (.pointer (some ⟨g, 0, none⟩)) (by kernel_rfl) (by kernel_rfl) ?_
      refine qs (.pointer (some ⟨g, 0, none⟩)) (by kernel_rfl) (by kernel_rfl) ?_
      refine qs (.slice (some ⟨g8, 0, none⟩) q2.length q2.length) (by kernel_rfl) (R_load (p := ⟨g, 0, none⟩) (by kernel_rfl) (by kernel_rfl) (by kernel_rfl) (HS.cell (i := 1) (j := 0) rfl rfl)) ?_
      refine qs (.int .i64 (q2.length : Int)) (by kernel_rfl) (by kernel_rfl) ?_
      obtain ⟨rm, rm_⟩ : ∃ z_ : Nat, z_ = (0 + n) % q2.length := ⟨_, rfl⟩
      have rml : rm < q2.length := by rw [rm_]; exact Nat.mod_lt _ (by omega)
      refine qs (.int .i64 (rm : Int)) (by kernel_rfl) (R_eq (R_rem (i := 0 + n) (j := q2.length) (by kernel_rfl) (by kernel_rfl) (by omega) (by omega)) (by rw [← rm_])) ?_
      refine qs (.int .i64 (rdI ys i)) (by kernel_rfl) (by kernel_rfl) ?_
      refine qs (.pointer (some ⟨g8, (rm : Int).toNat, none⟩)) (by kernel_rfl) (R_index1 (k := .i64) (g := g8) (n := q2.length) (c := q2.length) (i := (rm : Int)) (by kernel_rfl) (by kernel_rfl) Try.underlying28 (by kernel_rfl) (by omega) (by omega)) ?_
      refine wpStill_nil ?_
      refine kr (v := .int .i64 (rdI ys i)) HS 0 rfl ((rm : Int).toNat) [.int .i64 (rdI ys i)] (by kernel_rfl) (by kernel_rfl) (by kernel_rfl) (by kernel_rfl) (by kernel_rfl) (one_ (by kernel_rfl)) (by rw [ci_len]; first | omega | (simp only [List.length_singleton]; omega)) rfl ?_
      intro W17 H_
      obtain ⟨xs18, xs18_⟩ : ∃ z_ : List Int, z_ = (q2).set (rm : Int).toNat (rdI ys i) := ⟨_, rfl⟩
      replace HS : St W M W17 [row (some ⟨g8, 0, none⟩) q2.length q2.length (ci .i64 xs18) 3 1, blk g ((.slice (some ⟨g8, 0, none⟩) q2.length q2.length) :: (.int .i64 0) :: (.int .i64 (n : Int)) :: rest) tb, row A bs.length c (ci .i64 bs) 3 1, row (some ⟨g5, 0, none⟩) ys.length d (ci .i64 ys) 3 1] := H_.cast_ (by rw [xs18_, ← ci_set]; rfl)
      clear H_
      have xs18l : xs18.length = q2.length := by rw [xs18_, List.length_set]; first | done | omega
      refine wpList_nil ?_
      refine x_then ?_
      refine wp_region_lit ?_
      refine ql (.pointer (some ⟨g, 0, none⟩)) (by kernel_rfl) (by kernel_rfl) ?_
      refine ql (.pointer (some ⟨g, 0, none⟩)) (by kernel_rfl) (by kernel_rfl) ?_
      refine ql (.pointer (some ⟨g, 2, none⟩)) (by kernel_rfl) (by kernel_rfl) ?_
      refine ql (.int .i64 (n : Int)) (by kernel_rfl) (R_load (p := ⟨g, 2, none⟩) (by kernel_rfl) (by kernel_rfl) (by kernel_rfl) (HS.cell (i := 1) (j := 2) rfl rfl)) ?_
      refine ql (.int .i64 ((n : Int) + 1)) (by kernel_rfl) (R_int (by kernel_rfl) (w64 (by omega))) ?_
      refine ql (.pointer (some ⟨g, 0, none⟩)) (by kernel_rfl) (by kernel_rfl) ?_
      refine ql (.pointer (some ⟨g, 2, none⟩)) (by kernel_rfl) (by kernel_rfl) ?_
      refine ks (v := .int .i64 ((n : Int) + 1)) HS 1 rfl (2) [.int .i64 ((n : Int) + 1)] (by kernel_rfl) (by kernel_rfl) (by kernel_rfl) (by kernel_rfl) (by kernel_rfl) (one_ (by kernel_rfl)) (Nat.le_of_ble_eq_true rfl) rfl ?_
      intro W19 H_
      replace HS : St W M W19 [row (some ⟨g8, 0, none⟩) q2.length q2.length (ci .i64 xs18) 3 1, blk g ((.slice (some ⟨g8, 0, none⟩) q2.length q2.length) :: (.int .i64 0) :: (.int .i64 ((n : Int) + 1)) :: rest) tb, row A bs.length c (ci .i64 bs) 3 1, row (some ⟨g5, 0, none⟩) ys.length d (ci .i64 ys) 3 1] := H_
      clear H_
      refine wpList_nil ?_
      refine x_inb ?_
      refine x_then ?_
      refine wp_region_lit ?_
      refine ql (.int .i64 (i + 1)) (by kernel_rfl) (R_int (by kernel_rfl) (w64 (by omega))) ?_
      refine ql (.int .i64 (i + 1)) (by kernel_rfl) (by kernel_rfl) ?_
      refine wpList_nil ?_
      replace HS : St W M W19 [blk g ((.slice (some ⟨g8, 0, none⟩) q2.length q2.length) :: (.int .i64 0) :: (.int .i64 ((n : Int) + 1)) :: rest) tb, row (some ⟨g8, 0, none⟩) q2.length q2.length (ci .i64 xs18) 3 1, row (some ⟨g5, 0, none⟩) ys.length d (ci .i64 ys) 3 1] := St.tail (F := [row A bs.length c (ci .i64 bs) 3 1]) (HS.perm (perm_ [2, 1, 0, 3] (by kernel_rfl) rfl))
      have hn2 : (n : Int) + 1 = ((n + 1 : Nat) : Int) := by omega
      rw [hn2] at HS
      rw [← xs18l] at HS
      have hqp := hqg.push (v := rdI ys i) (by omega) (q := xs18) (by rw [xs18_, ← rm_]; rfl)
      rw [List.append_assoc, ← take_rd (xs := ys) i0 (by omega)] at hqp
      refine x_then ?_
      exact ⟨ys.length - (i + 1).toNat, by omega, (fun k_ : Nat => List.getD ((.pointer (some ⟨g, 0, none⟩)) :: (.slice (some ⟨g5, 0, none⟩) ys.length d) :: undef :: undef :: undef :: (.int .i64 (rdI ys i)) :: (.slice (some ⟨g8, 0, none⟩) q2.length q2.length) :: (.int .i64 ((bs.length - f : Nat) : Int)) :: (.pointer (some ⟨g, 0, none⟩)) :: (.bool false) :: (.slice (some ⟨g5, 0, none⟩) ys.length d) :: (.int .i64 (ys.length : Int)) :: (.int .i64 (i + 1)) :: (.bool true) :: (.pointer (some ⟨g5, i.toNat, none⟩)) :: (.int .i64 (rdI ys i)) :: (.pointer (some ⟨g, 0, none⟩)) :: (.pointer (some ⟨g, 0, none⟩)) :: (.pointer (some ⟨g, 2, none⟩)) :: (.int .i64 (n : Int)) :: (.pointer (some ⟨g, 0, none⟩)) :: (.pointer (some ⟨g, 0, none⟩)) :: (.pointer (some ⟨g, 0, none⟩)) :: (.slice A bs.length c) :: (.int .i64 (bs.length : Int)) :: (.bool true) :: (.pointer (some ⟨g, 0, none⟩)) :: (.pointer (some ⟨g, 0, none⟩)) :: (.pointer (some ⟨g, 2, none⟩)) :: (.int .i64 (n : Int)) :: (.int .i64 (2 * (n : Int))) :: (.int .i64 (q2.length : Int)) :: (.slice (some ⟨g8, 0, none⟩) q2.length q2.length) :: (.slice (some ⟨g8, 0, none⟩) q2.length q2.length) :: (.pointer (some ⟨g, 0, none⟩)) :: (.pointer (some ⟨g, 0, none⟩)) :: (.pointer (some ⟨g, 0, none⟩)) :: (.slice A bs.length c) :: (.pointer (some ⟨g, 0, none⟩)) :: (.pointer (some ⟨g, 0, none⟩)) :: (.pointer (some ⟨g, 1, none⟩)) :: (.int .i64 (f : Int)) :: (.slice (cutA A c f 1) (bs.length - f) (c - f)) :: (.int .i64 ((bs.length - f : Nat) : Int)) :: (.slice (some ⟨g8, 0, none⟩) q2.length q2.length) :: (.int .i64 ((bs.length - f : Nat) : Int)) :: (.slice (some ⟨g8, (bs.length - f), none⟩) (q2.length - (bs.length - f)) (q2.length - (bs.length - f))) :: (.pointer (some ⟨g, 0, none⟩)) :: (.pointer (some ⟨g, 0, none⟩)) :: (.pointer (some ⟨g, 0, none⟩)) :: (.slice A bs.length c) :: (.pointer (some ⟨g, 0, none⟩)) :: (.pointer (some ⟨g, 0, none⟩)) :: (.pointer (some ⟨g, 1, none⟩)) :: (.int .i64 (f : Int)) :: (.slice A f c) :: (.int .i64 (f : Int)) :: (.pointer (some ⟨g, 0, none⟩)) :: (.pointer (some ⟨g, 0, none⟩)) :: (.slice (some ⟨g8, 0, none⟩) q2.length q2.length) :: (.pointer (some ⟨g, 0, none⟩)) :: (.pointer (some ⟨g, 0, none⟩)) :: (.pointer (some ⟨g, 0, none⟩)) :: (.pointer (some ⟨g, 1, none⟩)) :: (.pointer (some ⟨g, 0, none⟩)) :: (.pointer (some ⟨g, 0, none⟩)) :: (.pointer (some ⟨g, 0, none⟩)) :: (.slice (some ⟨g8, 0, none⟩) q2.length q2.length) :: (.pointer (some ⟨g, 0, none⟩)) :: (.pointer (some ⟨g, 0, none⟩)) :: (.pointer (some ⟨g, 1, none⟩)) :: (.int .i64 0) :: (.pointer (some ⟨g, 0, none⟩)) :: (.pointer (some ⟨g, 0, none⟩)) :: (.pointer (some ⟨g, 2, none⟩)) :: (.int .i64 (n : Int)) :: (.int .i64 (0 + (n : Int))) :: (.pointer (some ⟨g, 0, none⟩)) :: (.pointer (some ⟨g, 0, none⟩)) :: (.pointer (some ⟨g, 0, none⟩)) :: (.slice (some ⟨g8, 0, none⟩) q2.length q2.length) :: (.int .i64 (q2.length : Int)) :: (.int .i64 (rm : Int)) :: (.int .i64 (rdI ys i)) :: (.pointer (some ⟨g8, (rm : Int).toNat, none⟩)) :: (.pointer (some ⟨g, 0, none⟩)) :: (.pointer (some ⟨g, 0, none⟩)) :: (.pointer (some ⟨g, 2, none⟩)) :: (.int .i64 (n : Int)) :: (.int .i64 ((n : Int) + 1)) :: (.pointer (some ⟨g, 0, none⟩)) :: (.pointer (some ⟨g, 2, none⟩)) :: (.int .i64 (i + 1)) :: []) k_ undef), i + 1, some ⟨g8, 0, none⟩, xs18.length, 0, (n + 1), xs18, congrArg Fr (by kernel_rfl), rfl, by omega, by omega, hqp, HS⟩
    · skip
      refine ql (.bool false) (by kernel_rfl) (R_beq (b := ((n : Int) == (bs.length : Int))) (by kernel_rfl) (beq_f (hc7))) ?_
      refine wpList_nil ?_
      refine x_then ?_
      refine wp_cond_false (by kernel_rfl) ?_
      refine wp_skip ?_
      refine x_then ?_
      refine wp_seq ?_
      refine rg_still HS 21 (by kernel_rfl) (by kernel_rfl) ?_
      intro W20 H_ HK_
      simp only [List.take_succ_cons, List.take_zero, List.drop_succ_cons, List.drop_zero]
      replace HS : St W M W20 [blk g ((.slice A bs.length c) :: (.int .i64 (f : Int)) :: (.int .i64 (n : Int)) :: rest) tb, row A bs.length c (ci .i64 bs) 3 1, row (some ⟨g5, 0, none⟩) ys.length d (ci .i64 ys) 3 1] := H_
      clear H_
      clear HK_
      refine qs (.pointer (some ⟨g, 0, none⟩)) (by kernel_rfl) (by kernel_rfl) ?_
      refine qs (.pointer (some ⟨g, 0, none⟩)) (by kernel_rfl) (by kernel_rfl) ?_
      refine qs (.pointer (some ⟨g, 0, none⟩)) (by kernel_rfl) (by kernel_rfl) ?_
      refine qs (.slice A bs.length c) (by kernel_rfl) (R_load (p := ⟨g, 0, none⟩) (by kernel_rfl) (by kernel_rfl) (by kernel_rfl) (HS.cell (i := 0) (j := 0) rfl rfl)) ?_
      refine qs (.pointer (some ⟨g, 0, none⟩)) (by kernel_rfl) (by kernel_rfl) ?_
      refine qs (.pointer (some ⟨g, 0, none⟩)) (by kernel_rfl) (by kernel_rfl) ?_
      refine qs (.pointer (some ⟨g, 1, none⟩)) (by kernel_rfl) (by kernel_rfl) ?_
      refine qs (.int .i64 (f : Int)) (by kernel_rfl) (R_load (p := ⟨g, 1, none⟩) (by kernel_rfl) (by kernel_rfl) (by kernel_rfl) (HS.cell (i := 0) (j := 1) rfl rfl)) ?_
      refine qs (.pointer (some ⟨g, 0, none⟩)) (by kernel_rfl) (by kernel_rfl) ?_
      refine qs (.pointer (some ⟨g, 0, none⟩)) (by kernel_rfl) (by kernel_rfl) ?_
      refine qs (.pointer (some ⟨g, 2, none⟩)) (by kernel_rfl) (by kernel_rfl) ?_
      refine qs (.int .i64 (n : Int)) (by kernel_rfl) (R_load (p := ⟨g, 2, none⟩) (by kernel_rfl) (by kernel_rfl) (by kernel_rfl) (HS.cell (i := 0) (j := 2) rfl rfl)) ?_
      refine qs (.int .i64 ((f : Int) + (n : Int))) (by kernel_rfl) (R_int (by kernel_rfl) (w64 (by omega))) ?_
      refine qs (.pointer (some ⟨g, 0, none⟩)) (by kernel_rfl) (by kernel_rfl) ?_
      refine qs (.pointer (some ⟨g, 0, none⟩)) (by kernel_rfl) (by kernel_rfl) ?_
      refine qs (.pointer (some ⟨g, 0, none⟩)) (by kernel_rfl) (by kernel_rfl) ?_
      refine qs (.slice A bs.length c) (by kernel_rfl) (R_load (p := ⟨g, 0, none⟩) (by kernel_rfl) (by kernel_rfl) (by kernel_rfl) (HS.cell (i := 0) (j := 0) rfl rfl)) ?_
      refine qs (.int .i64 (bs.length : Int)) (by kernel_rfl) (by kernel_rfl) ?_
      obtain ⟨rm, rm_⟩ : ∃ z_ : Nat, z_ = (f + n) % bs.length := ⟨_, rfl⟩
      have rml : rm < bs.length := by rw [rm_]; exact Nat.mod_lt _ (by omega)
      refine qs (.int .i64 (rm : Int)) (by kernel_rfl) (R_eq (R_rem (i := f + n) (j := bs.length) (by kernel_rfl) (by kernel_rfl) (by omega) (by omega)) (by rw [← rm_])) ?_
      refine qs (.int .i64 (rdI ys i)) (by kernel_rfl) (by kernel_rfl) ?_
      obtain ⟨g21, rfl⟩ := St.rsome HS (i := 1) rfl (by omega)
      refine qs (.pointer (some ⟨g21, (rm : Int).toNat, none⟩)) (by kernel_rfl) (R_index1 (k := .i64) (g := g21) (n := bs.length) (c := c) (i := (rm : Int)) (by kernel_rfl) (by kernel_rfl) Try.underlying28 (by kernel_rfl) (by omega) (by omega)) ?_
      refine wpStill_nil ?_
      refine kr (v := .int .i64 (rdI ys i)) HS 1 rfl ((rm : Int).toNat) [.int .i64 (rdI ys i)] (by kernel_rfl) (by kernel_rfl) (by kernel_rfl) (by kernel_rfl) (by kernel_rfl) (one_ (by kernel_rfl)) (by rw [ci_len]; first | omega | (simp only [List.length_singleton]; omega)) rfl ?_
      intro W22 H_
      obtain ⟨xs23, xs23_⟩ : ∃ z_ : List Int, z_ = (bs).set (rm : Int).toNat (rdI ys i) := ⟨_, rfl⟩
      replace HS : St W M W22 [blk g ((.slice (some ⟨g21, 0, none⟩) bs.length c) :: (.int .i64 (f : Int)) :: (.int .i64 (n : Int)) :: rest) tb, row (some ⟨g21, 0, none⟩) bs.length c (ci .i64 xs23) 3 1, row (some ⟨g5, 0, none⟩) ys.length d (ci .i64 ys) 3 1] := H_.cast_ (by rw [xs23_, ← ci_set]; rfl)
      clear H_
      have xs23l : xs23.length = bs.length := by rw [xs23_, List.length_set]; first | done | omega
      refine wpList_nil ?_
      refine x_then ?_
      refine wp_region_lit ?_
      refine ql (.pointer (some ⟨g, 0, none⟩)) (by kernel_rfl) (by kernel_rfl) ?_
      refine ql (.pointer (some ⟨g, 0, none⟩)) (by kernel_rfl) (by kernel_rfl) ?_
      refine ql (.pointer (some ⟨g, 2, none⟩)) (by kernel_rfl) (by kernel_rfl) ?_
      refine ql (.int .i64 (n : Int)) (by kernel_rfl) (R_load (p := ⟨g, 2, none⟩) (by kernel_rfl) (by kernel_rfl) (by kernel_rfl) (HS.cell (i := 0) (j := 2) rfl rfl)) ?_
      refine ql (.int .i64 ((n : Int) + 1)) (by kernel_rfl) (R_int (by kernel_rfl) (w64 (by omega))) ?_
      refine ql (.pointer (some ⟨g, 0, none⟩)) (by kernel_rfl) (by kernel_rfl) ?_
      refine ql (.pointer (some ⟨g, 2, none⟩)) (by kernel_rfl) (by kernel_rfl) ?_
      refine ks (v := .int .i64 ((n : Int) + 1)) HS 0 rfl (2) [.int .i64 ((n : Int) + 1)] (by kernel_rfl) (by kernel_rfl) (by kernel_rfl) (by kernel_rfl) (by kernel_rfl) (one_ (by kernel_rfl)) (Nat.le_of_ble_eq_true rfl) rfl ?_
      intro W24 H_
      replace HS : St W M W24 [blk g ((.slice (some ⟨g21, 0, none⟩) bs.length c) :: (.int .i64 (f : Int)) :: (.int .i64 ((n : Int) + 1)) :: rest) tb, row (some ⟨g21, 0, none⟩) bs.length c (ci .i64 xs23) 3 1, row (some ⟨g5, 0, none⟩) ys.length d (ci .i64 ys) 3 1] := H_
      clear H_
      refine wpList_nil ?_
      refine x_inb ?_
      refine x_then ?_
      refine wp_region_lit ?_
      refine ql (.int .i64 (i + 1)) (by kernel_rfl) (R_int (by kernel_rfl) (w64 (by omega))) ?_
      refine ql (.int .i64 (i + 1)) (by kernel_rfl) (by kernel_rfl) ?_
      refine wpList_nil ?_
      have hn2 : (n : Int) + 1 = ((n + 1 : Nat) : Int) := by omega
      rw [hn2] at HS
      rw [← xs23l] at HS
      have hqp := hq.push (v := rdI ys i) (by omega) (q := xs23) (by rw [xs23_, ← rm_]; rfl)
      rw [List.append_assoc, ← take_rd (xs := ys) i0 (by omega)] at hqp
      refine x_then ?_
      exact ⟨ys.length - (i + 1).toNat, by omega, (fun k_ : Nat => List.getD ((.pointer (some ⟨g, 0, none⟩)) :: (.slice (some ⟨g5, 0, none⟩) ys.length d) :: undef :: undef :: undef :: (.int .i64 (rdI ys i)) :: ((J1 6)) :: ((J1 7)) :: (.pointer (some ⟨g, 0, none⟩)) :: (.bool false) :: (.slice (some ⟨g5, 0, none⟩) ys.length d) :: (.int .i64 (ys.length : Int)) :: (.int .i64 (i + 1)) :: (.bool true) :: (.pointer (some ⟨g5, i.toNat, none⟩)) :: (.int .i64 (rdI ys i)) :: (.pointer (some ⟨g, 0, none⟩)) :: (.pointer (some ⟨g, 0, none⟩)) :: (.pointer (some ⟨g, 2, none⟩)) :: (.int .i64 (n : Int)) :: (.pointer (some ⟨g, 0, none⟩)) :: (.pointer (some ⟨g, 0, none⟩)) :: (.pointer (some ⟨g, 0, none⟩)) :: (.slice (some ⟨g21, 0, none⟩) bs.length c) :: (.int .i64 (bs.length : Int)) :: (.bool false) :: ((J1 26)) :: ((J1 27)) :: ((J1 28)) :: ((J1 29)) :: ((J1 30)) :: ((J1 31)) :: ((J1 32)) :: ((J1 33)) :: ((J1 34)) :: ((J1 35)) :: ((J1 36)) :: ((J1 37)) :: ((J1 38)) :: ((J1 39)) :: ((J1 40)) :: ((J1 41)) :: ((J1 42)) :: ((J1 43)) :: ((J1 44)) :: ((J1 45)) :: ((J1 46)) :: ((J1 47)) :: ((J1 48)) :: ((J1 49)) :: ((J1 50)) :: ((J1 51)) :: ((J1 52)) :: ((J1 53)) :: ((J1 54)) :: ((J1 55)) :: ((J1 56)) :: ((J1 57)) :: ((J1 58)) :: ((J1 59)) :: ((J1 60)) :: ((J1 61)) :: ((J1 62)) :: ((J1 63)) :: (.pointer (some ⟨g, 0, none⟩)) :: (.pointer (some ⟨g, 0, none⟩)) :: (.pointer (some ⟨g, 0, none⟩)) :: (.slice (some ⟨g21, 0, none⟩) bs.length c) :: (.pointer (some ⟨g, 0, none⟩)) :: (.pointer (some ⟨g, 0, none⟩)) :: (.pointer (some ⟨g, 1, none⟩)) :: (.int .i64 (f : Int)) :: (.pointer (some ⟨g, 0, none⟩)) :: (.pointer (some ⟨g, 0, none⟩)) :: (.pointer (some ⟨g, 2, none⟩)) :: (.int .i64 (n : Int)) :: (.int .i64 ((f : Int) + (n : Int))) :: (.pointer (some ⟨g, 0, none⟩)) :: (.pointer (some ⟨g, 0, none⟩)) :: (.pointer (some ⟨g, 0, none⟩)) :: (.slice (some ⟨g21, 0, none⟩) bs.length c) :: (.int .i64 (bs.length : Int)) :: (.int .i64 (rm : Int)) :: (.int .i64 (rdI ys i)) :: (.pointer (some ⟨g21, (rm : Int).toNat, none⟩)) :: (.pointer (some ⟨g, 0, none⟩)) :: (.pointer (some ⟨g, 0, none⟩)) :: (.pointer (some ⟨g, 2, none⟩)) :: (.int .i64 (n : Int)) :: (.int .i64 ((n : Int) + 1)) :: (.pointer (some ⟨g, 0, none⟩)) :: (.pointer (some ⟨g, 2, none⟩)) :: (.int .i64 (i + 1)) :: []) k_ undef), i + 1, some ⟨g21, 0, none⟩, c, f, (n + 1), xs23, congrArg Fr (by kernel_rfl), rfl, by omega, by omega, hqp, HS⟩
  · skip
    refine ql (.bool false) (by kernel_rfl) (R_nbool (p := i < (ys.length : Int)) (by kernel_rfl) (hc4)) ?_
    refine wpList_nil ?_
    refine x_then ?_
    refine wp_seq ?_
    refine wp_cond_false (by kernel_rfl) ?_
    refine wp_exit ?_
    refine x_thenE ?_
    refine x_thenE ?_
    refine x_hit ?_
    refine end_ (.tuple #[]) (by kernel_rfl) ?_
    replace HS : St W M W3 [blk g ((.slice A bs.length c) :: (.int .i64 (f : Int)) :: (.int .i64 (n : Int)) :: rest) tb, row A bs.length c (ci .i64 bs) 3 1] := St.tail (F := [row B ys.length d (ci .i64 ys) 3 1]) (HS.perm (perm_ [2, 0, 1] (by kernel_rfl) rfl))
    rw [List.take_of_length_le (by omega)] at hq
    exact ⟨_, _, f, n, bs, rfl, HS, hq⟩

set_option maxRecDepth 100000 in
set_option maxHeartbeats 1000000 in
theorem tis_yes (g : Nat) (D B : Option Addr) (cd cb : Nat) (ds bs : List Int) (W : World) (v : Int) (hd : W.cell? ⟨g, 1, none⟩ = some (.slice D ds.length cd)) (hb : W.cell? ⟨g, 2, none⟩ = some (.slice B bs.length cb)) (hrd : Rd W D (ci .i64 ds)) (hrb : Rd W B (ci .i64 bs)) (hlen : bs.length = ds.length) (hv : 0 ≤ v ∧ v < ds.length) : Calls Try.prog 55 #[.pointer (some ⟨g, 0, none⟩), .int .i64 v] W fun e W' => e = .returned (.bool true) ∧ St W (owns []) W' [] := by
  have HS : St W (owns []) W [] := St.start W _
  refine calls_enter [.pointer (some ⟨g, 0, none⟩), .int .i64 v, undef, undef, undef, undef, undef, undef, undef, undef, undef, undef, undef, undef, undef, undef, undef, undef, undef, undef] Try.func55 rfl (by kernel_rfl) ?_
  refine wp_seq ?_
  refine wp_region_lit ?_
  refine ql (.bool false) (by kernel_rfl) (by kernel_rfl) ?_
  refine wpList_nil ?_
  refine x_then ?_
  refine wp_seq ?_
  refine wp_region_lit ?_
  refine ql (.pointer (some ⟨g, 0, none⟩)) (by kernel_rfl) (by kernel_rfl) ?_
  refine ql (.bool true) (by kernel_rfl) (by kernel_rfl) ?_
  refine ql (.bool true) (by kernel_rfl) (by kernel_rfl) ?_
  refine ql (.int .i64 v) (by kernel_rfl) (by kernel_rfl) ?_
  refine ql (.bool true) (by kernel_rfl) (R_bool (p := v ≥ (0 : Int)) (by kernel_rfl) (by omega)) ?_
  refine ql (.bool true) (by kernel_rfl) (by kernel_rfl) ?_
  refine ql (.bool true) (by kernel_rfl) (by kernel_rfl) ?_
  refine ql (.int .i64 v) (by kernel_rfl) (by kernel_rfl) ?_
  refine ql (.pointer (some ⟨g, 0, none⟩)) (by kernel_rfl) (by kernel_rfl) ?_
  refine ql (.pointer (some ⟨g, 0, none⟩)) (by kernel_rfl) (by kernel_rfl) ?_
  refine ql (.pointer (some ⟨g, 1, none⟩)) (by kernel_rfl) (by kernel_rfl) ?_
  refine ql (.slice D ds.length cd) (by kernel_rfl) (R_load (p := ⟨g, 1, none⟩) (by kernel_rfl) (by kernel_rfl) (by kernel_rfl) (HS.old0 hd)) ?_
  refine ql (.int .i64 (ds.length : Int)) (by kernel_rfl) (by kernel_rfl) ?_
  refine ql (.bool true) (by kernel_rfl) (R_bool (p := v < (ds.length : Int)) (by kernel_rfl) (by omega)) ?_
  refine ql (.bool true) (by kernel_rfl) (by kernel_rfl) ?_
  refine ql (.bool true) (by kernel_rfl) (by kernel_rfl) ?_
  refine wpList_nil ?_
  refine x_then ?_
  refine wp_ret ?_
  refine ret_ (.bool true) (by kernel_rfl) ?_
  exact ⟨rfl, HS⟩

set_option maxRecDepth 100000 in
set_option maxHeartbeats 1000000 in
theorem tis_no (g : Nat) (D B : Option Addr) (cd cb : Nat) (ds bs : List Int) (W : World) (v : Int) (hd : W.cell? ⟨g, 1, none⟩ = some (.slice D ds.length cd)) (hb : W.cell? ⟨g, 2, none⟩ = some (.slice B bs.length cb)) (hrd : Rd W D (ci .i64 ds)) (hrb : Rd W B (ci .i64 bs)) (hlen : bs.length = ds.length) (hv : ¬ (0 ≤ v ∧ v < ds.length)) : Calls Try.prog 55 #[.pointer (some ⟨g, 0, none⟩), .int .i64 v] W fun e W' => e = .returned (.bool false) ∧ St W (owns []) W' [] := by
  have HS : St W (owns []) W [] := St.start W _
  refine calls_enter [.pointer (some ⟨g, 0, none⟩), .int .i64 v, undef, undef, undef, undef, undef, undef, undef, undef, undef, undef, undef, undef, undef, undef, undef, undef, undef, undef] Try.func55 rfl (by kernel_rfl) ?_
  refine wp_seq ?_
  refine wp_region_lit ?_
  refine ql (.bool false) (by kernel_rfl) (by kernel_rfl) ?_
  refine wpList_nil ?_
  refine x_then ?_
  refine wp_seq ?_
  refine wp_region_lit ?_
  refine ql (.pointer (some ⟨g, 0, none⟩)) (by kernel_rfl) (by kernel_rfl) ?_
  refine ql (.bool true) (by kernel_rfl) (by kernel_rfl) ?_
  refine ql (.bool true) (by kernel_rfl) (by kernel_rfl) ?_
  refine ql (.int .i64 v) (by kernel_rfl) (by kernel_rfl) ?_
  by_cases hc1 : v ≥ (0 : Int)
  · skip
    refine ql (.bool true) (by kernel_rfl) (R_bool (p := v ≥ (0 : Int)) (by kernel_rfl) (hc1)) ?_
    refine ql (.bool true) (by kernel_rfl) (by kernel_rfl) ?_
    refine ql (.bool true) (by kernel_rfl) (by kernel_rfl) ?_
    refine ql (.int .i64 v) (by kernel_rfl) (by kernel_rfl) ?_
    refine ql (.pointer (some ⟨g, 0, none⟩)) (by kernel_rfl) (by kernel_rfl) ?_
    refine ql (.pointer (some ⟨g, 0, none⟩)) (by kernel_rfl) (by kernel_rfl) ?_
    refine ql (.pointer (some ⟨g, 1, none⟩)) (by kernel_rfl) (by kernel_rfl) ?_
    refine ql (.slice D ds.length cd) (by kernel_rfl) (R_load (p := ⟨g, 1, none⟩) (by kernel_rfl) (by kernel_rfl) (by kernel_rfl) (HS.old0 hd)) ?_
    refine ql (.int .i64 (ds.length : Int)) (by kernel_rfl) (by kernel_rfl) ?_
    by_cases hc2 : v < (ds.length : Int)
    · skip
      refine ql (.bool true) (by kernel_rfl) (R_bool (p := v < (ds.length : Int)) (by kernel_rfl) (hc2)) ?_
      refine ql (.bool true) (by kernel_rfl) (by kernel_rfl) ?_
      refine ql (.bool true) (by kernel_rfl) (by kernel_rfl) ?_
      refine wpList_nil ?_
      refine x_then ?_
      refine wp_ret ?_
      refine ret_ (.bool true) (by kernel_rfl) ?_
      exact absurd ⟨by omega, by omega⟩ hv
    · skip
      refine ql (.bool false) (by kernel_rfl) (R_nbool (p := v < (ds.length : Int)) (by kernel_rfl) (hc2)) ?_
      refine ql (.bool false) (by kernel_rfl) (by kernel_rfl) ?_
      refine ql (.bool false) (by kernel_rfl) (by kernel_rfl) ?_
      refine wpList_nil ?_
      refine x_then ?_
      refine wp_ret ?_
      refine ret_ (.bool false) (by kernel_rfl) ?_
      exact ⟨rfl, HS⟩
  · skip
    refine ql (.bool false) (by kernel_rfl) (R_nbool (p := v ≥ (0 : Int)) (by kernel_rfl) (hc1)) ?_
    refine ql (.bool false) (by kernel_rfl) (by kernel_rfl) ?_
    refine ql (.bool false) (by kernel_rfl) (by kernel_rfl) ?_
    refine qln (by kernel_rfl) ?_
    refine qln (by kernel_rfl) ?_
    refine qln (by kernel_rfl) ?_
    refine qln (by kernel_rfl) ?_
    refine qln (by kernel_rfl) ?_
    refine qln (by kernel_rfl) ?_
    refine qln (by kernel_rfl) ?_
    refine ql (.bool false) (by kernel_rfl) (by kernel_rfl) ?_
    refine ql (.bool false) (by kernel_rfl) (by kernel_rfl) ?_
    refine wpList_nil ?_
    refine x_then ?_
    refine wp_ret ?_
    refine ret_ (.bool false) (by kernel_rfl) ?_
    exact ⟨rfl, HS⟩

set_option maxRecDepth 100000 in
set_option maxHeartbeats 1000000 in
theorem tdist_yes (g : Nat) (D B : Option Addr) (cd cb : Nat) (ds bs : List Int) (W : World) (v : Int) (hd : W.cell? ⟨g, 1, none⟩ = some (.slice D ds.length cd)) (hb : W.cell? ⟨g, 2, none⟩ = some (.slice B bs.length cb)) (hrd : Rd W D (ci .i64 ds)) (hrb : Rd W B (ci .i64 bs)) (hlen : bs.length = ds.length) (hv : 0 ≤ v ∧ v < ds.length) : Calls Try.prog 31 #[.pointer (some ⟨g, 0, none⟩), .int .i64 v] W fun e W' => e = .returned (.int .i64 (rdI ds v)) ∧ St W (owns []) W' [] := by
  have HS : St W (owns []) W [] := St.start W _
  refine calls_enter [.pointer (some ⟨g, 0, none⟩), .int .i64 v, undef, undef, undef, undef, undef, undef, undef, undef, undef, undef, undef, undef, undef, undef] Try.func31 rfl (by kernel_rfl) ?_
  refine wp_seq ?_
  refine wp_region_lit ?_
  refine ql (.int .i64 0) (by kernel_rfl) (by kernel_rfl) ?_
  refine wpList_nil ?_
  refine x_then ?_
  refine wp_seq ?_
  refine wp_seq ?_
  refine wp_region_lit ?_
  refine ql (.pointer (some ⟨g, 0, none⟩)) (by kernel_rfl) (by kernel_rfl) ?_
  refine ql (.int .i64 v) (by kernel_rfl) (by kernel_rfl) ?_
  refine qc (f := 55) (args := #[.pointer (some ⟨g, 0, none⟩), .int .i64 v]) (by kernel_rfl) (R_call #[.pointer (some ⟨g, 0, none⟩), .int .i64 v] Try.func55 (by kernel_rfl) (by kernel_rfl) (by kernel_rfl)) ?_
  refine (tis_yes g D B cd cb ds bs _ v (HS.old0 hd) (HS.old0 hb) (hrd.old0 HS) (hrb.old0 HS) hlen hv).mono ?_
  rintro e W1 ⟨rfl, H_⟩
  refine ⟨_, rfl, ?_⟩
  replace HS : St W (owns []) W1 [] := HS.join (F := []) (G := []) H_
  clear H_
  refine ql (.bool false) (by kernel_rfl) (by kernel_rfl) ?_
  refine wpList_nil ?_
  refine x_then ?_
  refine wp_cond_false (by kernel_rfl) ?_
  refine wp_skip ?_
  refine x_then ?_
  refine wp_seq ?_
  refine wp_region_lit ?_
  refine ql (.pointer (some ⟨g, 0, none⟩)) (by kernel_rfl) (by kernel_rfl) ?_
  refine ql (.pointer (some ⟨g, 0, none⟩)) (by kernel_rfl) (by kernel_rfl) ?_
  refine ql (.pointer (some ⟨g, 1, none⟩)) (by kernel_rfl) (by kernel_rfl) ?_
  refine ql (.slice D ds.length cd) (by kernel_rfl) (R_load (p := ⟨g, 1, none⟩) (by kernel_rfl) (by kernel_rfl) (by kernel_rfl) (HS.old0 hd)) ?_
  refine ql (.int .i64 v) (by kernel_rfl) (by kernel_rfl) ?_
  obtain ⟨ad2, rfl⟩ := Rd.isSome_ hrd (by rw [ci_len]; omega)
  refine ql (.pointer (some (ad2.add v.toNat))) (by kernel_rfl) (R_indexA1 (k := .i64) (p := ad2) (n := ds.length) (c := cd) (i := v) (by kernel_rfl) (by kernel_rfl) Try.underlying28 (by kernel_rfl) (by omega) (by omega)) ?_
  refine ql (.int .i64 (rdI ds v)) (by kernel_rfl) (R_load (p := ad2.add v.toNat) (by kernel_rfl) (by kernel_rfl) (by kernel_rfl) (HS.old0 (hrd.at_ (ci_rd (by omega) (by omega))))) ?_
  refine ql (.int .i64 (rdI ds v)) (by kernel_rfl) (by kernel_rfl) ?_
  refine wpList_nil ?_
  refine x_then ?_
  refine wp_ret ?_
  refine ret_ (.int .i64 (rdI ds v)) (by kernel_rfl) ?_
  exact ⟨rfl, HS⟩

set_option maxRecDepth 100000 in
set_option maxHeartbeats 1000000 in
theorem tdist_no (g : Nat) (D B : Option Addr) (cd cb : Nat) (ds bs : List Int) (W : World) (v : Int) (hd : W.cell? ⟨g, 1, none⟩ = some (.slice D ds.length cd)) (hb : W.cell? ⟨g, 2, none⟩ = some (.slice B bs.length cb)) (hrd : Rd W D (ci .i64 ds)) (hrb : Rd W B (ci .i64 bs)) (hlen : bs.length = ds.length) (hv : ¬ (0 ≤ v ∧ v < ds.length)) : Calls Try.prog 31 #[.pointer (some ⟨g, 0, none⟩), .int .i64 v] W fun e W' => e = .returned (.int .i64 (-1)) ∧ St W (owns []) W' [] := by
  have HS : St W (owns []) W [] := St.start W _
  refine calls_enter [.pointer (some ⟨g, 0, none⟩), .int .i64 v, undef, undef, undef, undef, undef, undef, undef, undef, undef, undef, undef, undef, undef, undef] Try.func31 rfl (by kernel_rfl) ?_
  refine wp_seq ?_
  refine wp_region_lit ?_
  refine ql (.int .i64 0) (by kernel_rfl) (by kernel_rfl) ?_
  refine wpList_nil ?_
  refine x_then ?_
  refine wp_seq ?_
  refine wp_seq ?_
  refine wp_region_lit ?_
  refine ql (.pointer (some ⟨g, 0, none⟩)) (by kernel_rfl) (by kernel_rfl) ?_
  refine ql (.int .i64 v) (by kernel_rfl) (by kernel_rfl) ?_
  refine qc (f := 55) (args := #[.pointer (some ⟨g, 0, none⟩), .int .i64 v]) (by kernel_rfl) (R_call #[.pointer (some ⟨g, 0, none⟩), .int .i64 v] Try.func55 (by kernel_rfl) (by kernel_rfl) (by kernel_rfl)) ?_
  refine (tis_no g D B cd cb ds bs _ v (HS.old0 hd) (HS.old0 hb) (hrd.old0 HS) (hrb.old0 HS) hlen hv).mono ?_
  rintro e W1 ⟨rfl, H_⟩
  refine ⟨_, rfl, ?_⟩
  replace HS : St W (owns []) W1 [] := HS.join (F := []) (G := []) H_
  clear H_
  refine ql (.bool true) (by kernel_rfl) (by kernel_rfl) ?_
  refine wpList_nil ?_
  refine x_then ?_
  refine wp_cond_true (by kernel_rfl) ?_
  refine wp_seq ?_
  refine wp_region_lit ?_
  refine ql (.int .i64 (-1)) (by kernel_rfl) (by kernel_rfl) ?_
  refine wpList_nil ?_
  refine x_then ?_
  refine wp_ret ?_
  refine x_thenR ?_
  refine ret_ (.int .i64 (-1)) (by kernel_rfl) ?_
  exact ⟨rfl, HS⟩

set_option maxRecDepth 100000 in
set_option maxHeartbeats 1000000 in
theorem tback_yes (g : Nat) (D B : Option Addr) (cd cb : Nat) (ds bs : List Int) (W : World) (v : Int) (hd : W.cell? ⟨g, 1, none⟩ = some (.slice D ds.length cd)) (hb : W.cell? ⟨g, 2, none⟩ = some (.slice B bs.length cb)) (hrd : Rd W D (ci .i64 ds)) (hrb : Rd W B (ci .i64 bs)) (hlen : bs.length = ds.length) (hv : 0 ≤ v ∧ v < ds.length) : Calls Try.prog 34 #[.pointer (some ⟨g, 0, none⟩), .int .i64 v] W fun e W' => e = .returned (.int .i64 (rdI bs v)) ∧ St W (owns []) W' [] := by
  have HS : St W (owns []) W [] := St.start W _
  refine calls_enter [.pointer (some ⟨g, 0, none⟩), .int .i64 v, undef, undef, undef, undef, undef, undef, undef, undef, undef, undef, undef, undef, undef, undef] Try.func34 rfl (by kernel_rfl) ?_
  refine wp_seq ?_
  refine wp_region_lit ?_
  refine ql (.int .i64 0) (by kernel_rfl) (by kernel_rfl) ?_
  refine wpList_nil ?_
  refine x_then ?_
  refine wp_seq ?_
  refine wp_seq ?_
  refine wp_region_lit ?_
  refine ql (.pointer (some ⟨g, 0, none⟩)) (by kernel_rfl) (by kernel_rfl) ?_
  refine ql (.int .i64 v) (by kernel_rfl) (by kernel_rfl) ?_
  refine qc (f := 55) (args := #[.pointer (some ⟨g, 0, none⟩), .int .i64 v]) (by kernel_rfl) (R_call #[.pointer (some ⟨g, 0, none⟩), .int .i64 v] Try.func55 (by kernel_rfl) (by kernel_rfl) (by kernel_rfl)) ?_
  refine (tis_yes g D B cd cb ds bs _ v (HS.old0 hd) (HS.old0 hb) (hrd.old0 HS) (hrb.old0 HS) hlen hv).mono ?_
  rintro e W1 ⟨rfl, H_⟩
  refine ⟨_, rfl, ?_⟩
  replace HS : St W (owns []) W1 [] := HS.join (F := []) (G := []) H_
  clear H_
  refine ql (.bool false) (by kernel_rfl) (by kernel_rfl) ?_
  refine wpList_nil ?_
  refine x_then ?_
  refine wp_cond_false (by kernel_rfl) ?_
  refine wp_skip ?_
  refine x_then ?_
  refine wp_seq ?_
  refine wp_region_lit ?_
  refine ql (.pointer (some ⟨g, 0, none⟩)) (by kernel_rfl) (by kernel_rfl) ?_
  refine ql (.pointer (some ⟨g, 0, none⟩)) (by kernel_rfl) (by kernel_rfl) ?_
  refine ql (.pointer (some ⟨g, 2, none⟩)) (by kernel_rfl) (by kernel_rfl) ?_
  refine ql (.slice B bs.length cb) (by kernel_rfl) (R_load (p := ⟨g, 2, none⟩) (by kernel_rfl) (by kernel_rfl) (by kernel_rfl) (HS.old0 hb)) ?_
  refine ql (.int .i64 v) (by kernel_rfl) (by kernel_rfl) ?_
  obtain ⟨ad2, rfl⟩ := Rd.isSome_ hrb (by rw [ci_len]; omega)
  refine ql (.pointer (some (ad2.add v.toNat))) (by kernel_rfl) (R_indexA1 (k := .i64) (p := ad2) (n := bs.length) (c := cb) (i := v) (by kernel_rfl) (by kernel_rfl) Try.underlying28 (by kernel_rfl) (by omega) (by omega)) ?_
  refine ql (.int .i64 (rdI bs v)) (by kernel_rfl) (R_load (p := ad2.add v.toNat) (by kernel_rfl) (by kernel_rfl) (by kernel_rfl) (HS.old0 (hrb.at_ (ci_rd (by omega) (by omega))))) ?_
  refine ql (.int .i64 (rdI bs v)) (by kernel_rfl) (by kernel_rfl) ?_
  refine wpList_nil ?_
  refine x_then ?_
  refine wp_ret ?_
  refine ret_ (.int .i64 (rdI bs v)) (by kernel_rfl) ?_
  exact ⟨rfl, HS⟩

def layr (ds : List Int) (d : Int) (q : Nat) : List Int := ((List.range q).filter (fun w : Nat => decide (rdI ds (w : Int) = d))).map (fun w : Nat => (w : Int))
theorem layr_step {ds : List Int} {d q : Int} (h0 : 0 ≤ q) : layr ds d (q + 1).toNat = layr ds d q.toNat ++ if rdI ds q = d then [q] else [] := by
  unfold layr
  rw [show (q + 1).toNat = q.toNat + 1 by omega, List.range_succ, List.filter_append, List.map_append]
  congr 1
  by_cases h : rdI ds q = d
  · rw [if_pos h]; simp [show ((q.toNat : Nat) : Int) = q by omega, h]
  · rw [if_neg h]; simp [show ((q.toNat : Nat) : Int) = q by omega, h]
theorem layr_le (ds : List Int) (d : Int) (q : Nat) : (layr ds d q).length ≤ q := by
  unfold layr; rw [List.length_map]; exact Nat.le_trans (List.length_filter_le _ _) (by simp)
attribute [irreducible] layr
set_option maxRecDepth 100000 in
set_option maxHeartbeats 1000000 in
theorem tlayer (g : Nat) (D B : Option Addr) (cd cb : Nat) (ds bs : List Int) (W : World) (d : Int) (hd : W.cell? ⟨g, 1, none⟩ = some (.slice D ds.length cd)) (hb : W.cell? ⟨g, 2, none⟩ = some (.slice B bs.length cb)) (hrd : Rd W D (ci .i64 ds)) (hrb : Rd W B (ci .i64 bs)) (hlen : bs.length = ds.length) (hl : ds.length ≤ 1099511627776) (h0 : 0 ≤ d) : Calls Try.prog 36 #[.pointer (some ⟨g, 0, none⟩), .int .i64 d] W fun e W' => ∃ A' c', e = .returned (.slice A' (layr ds d ds.length).length c') ∧ St W (owns []) W' [row A' (layr ds d ds.length).length c' (ci .i64 (layr ds d ds.length)) 3 1] := by
  have HS : St W (owns []) W [] := St.start W _
  refine calls_enter [.pointer (some ⟨g, 0, none⟩), .int .i64 d, undef, undef, undef, undef, undef, undef, undef, undef, undef, undef, undef, undef, undef, undef, undef, undef, undef, undef, undef, undef, undef, undef, undef, undef, undef, undef, undef, undef, undef, undef, undef] Try.func36 rfl (by kernel_rfl) ?_
  refine wp_seq ?_
  refine wp_region_lit ?_
  refine ql (.slice none 0 0) (by kernel_rfl) (by kernel_rfl) ?_
  refine wpList_nil ?_
  refine x_then ?_
  refine wp_seq ?_
  refine wp_seq ?_
  refine wp_region_lit ?_
  refine ql (.pointer (some ⟨g, 0, none⟩)) (by kernel_rfl) (by kernel_rfl) ?_
  refine ql (.bool false) (by kernel_rfl) (by kernel_rfl) ?_
  refine ql (.bool false) (by kernel_rfl) (by kernel_rfl) ?_
  refine ql (.int .i64 d) (by kernel_rfl) (by kernel_rfl) ?_
  refine ql (.bool false) (by kernel_rfl) (R_nbool (p := d < (0 : Int)) (by kernel_rfl) (by omega)) ?_
  refine ql (.bool false) (by kernel_rfl) (by kernel_rfl) ?_
  refine wpList_nil ?_
  refine x_then ?_
  refine wp_cond_false (by kernel_rfl) ?_
  refine wp_skip ?_
  refine x_then ?_
  refine wp_seq ?_
  refine wp_region_lit ?_
  refine ql (.slice none 0 0) (by kernel_rfl) (by kernel_rfl) ?_
  refine wpList_nil ?_
  refine x_then ?_
  refine wp_seq ?_
  refine wp_seq ?_
  refine wp_region_lit ?_
  refine ql (.pointer (some ⟨g, 0, none⟩)) (by kernel_rfl) (by kernel_rfl) ?_
  refine ql (.pointer (some ⟨g, 0, none⟩)) (by kernel_rfl) (by kernel_rfl) ?_
  refine ql (.pointer (some ⟨g, 1, none⟩)) (by kernel_rfl) (by kernel_rfl) ?_
  refine ql (.slice D ds.length cd) (by kernel_rfl) (R_load (p := ⟨g, 1, none⟩) (by kernel_rfl) (by kernel_rfl) (by kernel_rfl) (HS.old0 hd)) ?_
  refine ql (.int .i64 (ds.length : Int)) (by kernel_rfl) (by kernel_rfl) ?_
  refine ql (.int .i64 0) (by kernel_rfl) (by kernel_rfl) ?_
  refine wpList_nil ?_
  refine x_then ?_
  refine wp_block ?_
  replace HS : St W (owns []) W [row none 0 0 (ci .i64 ([])) 3 1] := (HS.nilRow 3 1).cast_ (by kernel_rfl)
  refine wp_loop_ghost (fun kq a' w' => ∃ (J1 : Nat → Value) (i : Int) (Ao : Option Addr) (co : Nat) (os : List Int) , a' = Fr [.pointer (some ⟨g, 0, none⟩), .int .i64 d, undef, undef, .slice none 0 0, .slice Ao os.length co, (J1 6), (J1 7), .pointer (some ⟨g, 0, none⟩), .bool false, .bool false, .int .i64 d, .bool false, .bool false, .pointer (some ⟨g, 0, none⟩), .pointer (some ⟨g, 0, none⟩), .pointer (some ⟨g, 1, none⟩), .slice D ds.length cd, .int .i64 (ds.length : Int), .int .i64 i, (J1 20), (J1 21), (J1 22), (J1 23), (J1 24), (J1 25), (J1 26), (J1 27), (J1 28), (J1 29), (J1 30), (J1 31), undef] ∧ kq = (ds.length - (i).toNat) ∧ (0 ≤ i) ∧ (i ≤ ds.length) ∧ (os = layr ds d (i).toNat) ∧ ((os.length : Int) ≤ i) ∧ St W (owns []) w' [row Ao os.length co (ci .i64 os) 3 1]) (ds.length - ((0 : Int)).toNat) ⟨(fun k_ : Nat => List.getD [.pointer (some ⟨g, 0, none⟩), .int .i64 d, undef, undef, .slice none 0 0, .slice none 0 0, undef, undef, .pointer (some ⟨g, 0, none⟩), .bool false, .bool false, .int .i64 d, .bool false, .bool false, .pointer (some ⟨g, 0, none⟩), .pointer (some ⟨g, 0, none⟩), .pointer (some ⟨g, 1, none⟩), .slice D ds.length cd, .int .i64 (ds.length : Int), .int .i64 0, undef, undef, undef, undef, undef, undef, undef, undef, undef, undef, undef, undef, undef] k_ undef), (0 : Int), none, 0, ([] : List Int), congrArg Fr (by kernel_rfl), rfl, by omega, by omega, by unfold layr; rfl, by simp, HS⟩ ?_
  clear HS
  intro kq2 a' W3 hrel
  obtain ⟨J1, i, Ao, co, os, rfl, hk, i0, i1, ho, hol, HS⟩ := hrel
  refine wp_seq ?_
  refine wp_region_lit ?_
  by_cases hc4 : i < (ds.length : Int)
  · skip
    refine ql (.bool true) (by kernel_rfl) (R_bool (p := i < (ds.length : Int)) (by kernel_rfl) (hc4)) ?_
    refine wpList_nil ?_
    refine x_then ?_
    refine wp_seq ?_
    refine wp_cond_true (by kernel_rfl) ?_
    refine wp_skip ?_
    refine x_then ?_
    refine wp_seq ?_
    refine wp_block ?_
    refine wp_seq ?_
    refine wp_region_lit ?_
    refine ql (.int .i64 i) (by kernel_rfl) (by kernel_rfl) ?_
    obtain ⟨ad5, rfl⟩ := Rd.isSome_ hrd (by rw [ci_len]; omega)
    refine ql (.pointer (some (ad5.add i.toNat))) (by kernel_rfl) (R_indexA1 (k := .i64) (p := ad5) (n := ds.length) (c := cd) (i := i) (by kernel_rfl) (by kernel_rfl) Try.underlying28 (by kernel_rfl) (by omega) (by omega)) ?_
    refine ql (.int .i64 (rdI ds i)) (by kernel_rfl) (R_load (p := ad5.add i.toNat) (by kernel_rfl) (by kernel_rfl) (by kernel_rfl) (HS.old0 (hrd.at_ (ci_rd (by omega) (by omega))))) ?_
    refine ql (.int .i64 i) (by kernel_rfl) (by kernel_rfl) ?_
    refine ql (.int .i64 (rdI ds i)) (by kernel_rfl) (by kernel_rfl) ?_
    refine wpList_nil ?_
    refine x_then ?_
    refine wp_seq ?_
    refine wp_region_lit ?_
    refine ql (.int .i64 (rdI ds i)) (by kernel_rfl) (by kernel_rfl) ?_
    refine ql (.int .i64 d) (by kernel_rfl) (by kernel_rfl) ?_
    by_cases hc6 : (rdI ds i) = d
    · skip
      refine ql (.bool true) (by kernel_rfl) (R_beq (b := (rdI ds i == d)) (by kernel_rfl) (beq_t (hc6))) ?_
      refine wpList_nil ?_
      refine x_then ?_
      refine wp_cond_true (by kernel_rfl) ?_
      refine wp_region_lit ?_
      refine ql (.slice Ao os.length co) (by kernel_rfl) (by kernel_rfl) ?_
      refine ql (.int .i64 i) (by kernel_rfl) (by kernel_rfl) ?_
      refine kl HS 1 [.int .i64 i] 3 1 (by kernel_rfl) (by kernel_rfl) rfl (by decide) ?_
      intro g7 W8 H_
      replace HS : St W (owns []) W8 [row (some ⟨g7, 0, none⟩) 1 1 (ci .i64 ([i])) 3 1, row Ao os.length co (ci .i64 os) 3 1] := H_.cast_ (by kernel_rfl)
      clear H_
      obtain ⟨xs12, xs12_⟩ : ∃ z_ : List Int, z_ = os ++ ([i]) := ⟨_, rfl⟩
      have xs12l : xs12.length = os.length + 1 := by rw [xs12_, List.length_append] <;> (try simp only [List.length_cons, List.length_nil]) <;> omega
      refine ka1 HS 1 rfl (Src.of_row HS (i := 0) rfl ci_one) [.int .i64 0] 8 xs12.length (ci .i64 xs12) (by omega) (by rw [xs12_, ci_app]) (by kernel_rfl) (by kernel_rfl) (by kernel_rfl) Try.underlying28 (by kernel_rfl) (by kernel_rfl) (by kernel_rfl) (by kernel_rfl) (by decide) (by omega) (by omega) ?_
      intro A9 c10 W11 H_
      replace HS : St W (owns []) W11 [row (some ⟨g7, 0, none⟩) 1 1 (ci .i64 ([i])) 3 1, row A9 xs12.length c10 (ci .i64 xs12) 3 1] := H_
      clear H_
      refine ql (.slice A9 xs12.length c10) (by kernel_rfl) (by kernel_rfl) ?_
      refine wpList_nil ?_
      refine x_inb ?_
      refine x_then ?_
      refine wp_region_lit ?_
      refine ql (.int .i64 (i + 1)) (by kernel_rfl) (R_int (by kernel_rfl) (w64 (by omega))) ?_
      refine ql (.int .i64 (i + 1)) (by kernel_rfl) (by kernel_rfl) ?_
      refine wpList_nil ?_
      replace HS := HS.drop1
      have hst := layr_step (ds := ds) (d := d) i0
      rw [if_pos hc6, ← ho] at hst
      refine x_then ?_
      exact ⟨ds.length - (i + 1).toNat, by omega, (fun k_ : Nat => List.getD [.pointer (some ⟨g, 0, none⟩), .int .i64 d, undef, undef, .slice none 0 0, .slice A9 xs12.length c10, .int .i64 i, .int .i64 (rdI ds i), .pointer (some ⟨g, 0, none⟩), .bool false, .bool false, .int .i64 d, .bool false, .bool false, .pointer (some ⟨g, 0, none⟩), .pointer (some ⟨g, 0, none⟩), .pointer (some ⟨g, 1, none⟩), .slice (some ad5) ds.length cd, .int .i64 (ds.length : Int), .int .i64 (i + 1), .bool true, .int .i64 i, .pointer (some (ad5.add i.toNat)), .int .i64 (rdI ds i), .int .i64 (rdI ds i), .int .i64 d, .bool true, .slice Ao os.length co, .int .i64 i, .slice (some ⟨g7, 0, none⟩) 1 1, .slice A9 xs12.length c10, .int .i64 (i + 1), undef] k_ undef), i + 1, A9, c10, xs12, congrArg Fr (by kernel_rfl), rfl, by omega, by omega, by rw [hst, xs12_], by omega, HS⟩
    · skip
      refine ql (.bool false) (by kernel_rfl) (R_beq (b := (rdI ds i == d)) (by kernel_rfl) (beq_f (hc6))) ?_
      refine wpList_nil ?_
      refine x_then ?_
      refine wp_cond_false (by kernel_rfl) ?_
      refine wp_skip ?_
      refine x_inb ?_
      refine x_then ?_
      refine wp_region_lit ?_
      refine ql (.int .i64 (i + 1)) (by kernel_rfl) (R_int (by kernel_rfl) (w64 (by omega))) ?_
      refine ql (.int .i64 (i + 1)) (by kernel_rfl) (by kernel_rfl) ?_
      refine wpList_nil ?_
      have hst := layr_step (ds := ds) (d := d) i0
      rw [if_neg hc6, ← ho] at hst
      refine x_then ?_
      exact ⟨ds.length - (i + 1).toNat, by omega, (fun k_ : Nat => List.getD [.pointer (some ⟨g, 0, none⟩), .int .i64 d, undef, undef, .slice none 0 0, .slice Ao os.length co, .int .i64 i, .int .i64 (rdI ds i), .pointer (some ⟨g, 0, none⟩), .bool false, .bool false, .int .i64 d, .bool false, .bool false, .pointer (some ⟨g, 0, none⟩), .pointer (some ⟨g, 0, none⟩), .pointer (some ⟨g, 1, none⟩), .slice (some ad5) ds.length cd, .int .i64 (ds.length : Int), .int .i64 (i + 1), .bool true, .int .i64 i, .pointer (some (ad5.add i.toNat)), .int .i64 (rdI ds i), .int .i64 (rdI ds i), .int .i64 d, .bool false, (J1 27), (J1 28), (J1 29), (J1 30), .int .i64 (i + 1), undef] k_ undef), i + 1, Ao, co, os, congrArg Fr (by kernel_rfl), rfl, by omega, by omega, by rw [hst, List.append_nil], by omega, HS⟩
  · skip
    refine ql (.bool false) (by kernel_rfl) (R_nbool (p := i < (ds.length : Int)) (by kernel_rfl) (hc4)) ?_
    refine wpList_nil ?_
    refine x_then ?_
    refine wp_seq ?_
    refine wp_cond_false (by kernel_rfl) ?_
    refine wp_exit ?_
    refine x_thenE ?_
    refine x_thenE ?_
    refine x_hit ?_
    refine x_then ?_
    refine wp_seq ?_
    refine wp_region_lit ?_
    refine ql (.slice Ao os.length co) (by kernel_rfl) (by kernel_rfl) ?_
    refine ql (.slice Ao os.length co) (by kernel_rfl) (by kernel_rfl) ?_
    refine wpList_nil ?_
    refine x_then ?_
    refine wp_ret ?_
    refine ret_ (.slice Ao os.length co) (by kernel_rfl) ?_
    have hre : os = layr ds d ds.length := by rw [ho, show i.toNat = ds.length by omega]
    subst hre
    exact ⟨_, _, rfl, HS⟩

set_option maxRecDepth 100000 in
set_option maxHeartbeats 1000000 in
theorem cadd_nil (p k : Int) (W : World) : Calls Try.prog 54 #[.pointer none, .int .i64 p, .int .i64 k] W fun e W' => e = .returned (.tuple #[]) ∧ St W (owns []) W' [] := by
  have HS : St W (owns []) W [] := St.start W _
  refine calls_enter [.pointer none, .int .i64 p, .int .i64 k, undef, undef, undef, undef, undef, undef, undef, undef, undef, undef, undef, undef, undef, undef, undef, undef, undef, undef, undef, undef, undef, undef, undef, undef, undef, undef, undef, undef, undef, undef, undef, undef, undef, undef, undef, undef, undef, undef, undef, undef, undef, undef] Try.func54 rfl (by kernel_rfl) ?_
  refine wp_seq ?_
  refine wp_seq ?_
  refine wp_region_lit ?_
  refine ql (.pointer none) (by kernel_rfl) (by kernel_rfl) ?_
  refine ql (.bool true) (by kernel_rfl) (by kernel_rfl) ?_
  refine ql (.bool true) (by kernel_rfl) (by kernel_rfl) ?_
  refine qln (by kernel_rfl) ?_
  refine qln (by kernel_rfl) ?_
  refine ql (.bool true) (by kernel_rfl) (by kernel_rfl) ?_
  refine ql (.bool true) (by kernel_rfl) (by kernel_rfl) ?_
  refine qln (by kernel_rfl) ?_
  refine qln (by kernel_rfl) ?_
  refine ql (.bool true) (by kernel_rfl) (by kernel_rfl) ?_
  refine ql (.bool true) (by kernel_rfl) (by kernel_rfl) ?_
  refine qln (by kernel_rfl) ?_
  refine qln (by kernel_rfl) ?_
  refine ql (.bool true) (by kernel_rfl) (by kernel_rfl) ?_
  refine wpList_nil ?_
  refine x_then ?_
  refine wp_cond_true (by kernel_rfl) ?_
  refine wp_ret ?_
  refine x_thenR ?_
  refine ret_ (.tuple #[]) (by kernel_rfl) ?_
  exact ⟨rfl, HS⟩


end Go.Proofs.Ythfpdpjccnnlhaa.GPathShort
