/- Written for this claim by gp.py, a program of this session's, over the kit's print. Lean checks it. -/
import Derived.Test.YthfpdpjccnnlhaaGBfsTellsx0
import Derived.Test.YthfpdpjccnnlhaaGBfsTellshx
import Derived.Test.YthfpdpjccnnlhaaGBfsTellshhp1
import Derived.Test.YthfpdpjccnnlhaaGBfsTellshhp2
import Derived.Test.YthfpdpjccnnlhaaGBfsTellshgp
import Derived.WalkKit
import Derived.StillTailTactics
import Derived.Deep.LoopGhost
import Derived.KernelRfl
import Derived.Deep.OwnRows
import Derived.Laws.OwnMore
import Derived.Laws.MakeOwn
import Derived.Maps.AppendAt
import Derived.OrdersHeld
namespace Go.Proofs.Ythfpdpjccnnlhaa.GBfsTells
open Go.RowKit Go.Proofs.YthfpdpjccnnlhaaW.PrintWords Go.Proofs.YthfpdpjccnnlhaaW.PrintLast Go.Proofs.YthfpdpjccnnlhaaW.PrintMore
attribute [local go_sem] max2_int min2_int max_two min_two max_three min_three max_four min_four   -- for this text's walks alone
set_option linter.unusedVariables false
set_option linter.unusedSimpArgs false

--import Derived.WalkKit
--import Derived.StillTailTactics
--import Derived.Deep.LoopGhost
--import Derived.KernelRfl
--import Derived.Deep.OwnRows
--import Derived.Laws.OwnMore
--import Derived.Laws.MakeOwn
--import Derived.Maps.AppendAt
--import Derived.OrdersHeld
attribute [local irreducible] wpStill wpList Code.wp TA

theorem ints_step {xs ys zs : List Int} {i : Int} (hy : ys = xs.take i.toNat ++ List.replicate (xs.length - i.toNat) 0) (hz : zs = ys.set i.toNat (rdI xs i)) (h0 : 0 ≤ i) (h1 : i < xs.length) : zs = xs.take (i + 1).toNat ++ List.replicate (xs.length - (i + 1).toNat) 0 := by
  have e : (i + 1).toNat = i.toNat + 1 := by omega
  have hi : i.toNat < xs.length := by omega
  rw [hz, hy, e, List.take_succ_eq_append_getElem hi, List.set_append_right _ _ (by simp; omega)]
  have e2 : xs.length - i.toNat = (xs.length - (i.toNat + 1)) + 1 := by omega
  rw [e2, List.replicate_succ]
  have e3 : i.toNat - (List.take i.toNat xs).length = 0 := by simp; omega
  rw [e3, List.set_cons_zero, List.append_assoc]
  simp [rdI, hi]

set_option maxRecDepth 100000 in
set_option maxHeartbeats 1000000 in
theorem ints_calls (A : Option Addr) (c : Nat) (xs : List Int) (W : World) (hr : Rd W A (ci .i32 xs)) (hx : ∀ x ∈ xs, -2147483648 ≤ x ∧ x ≤ 2147483647) (hl : xs.length ≤ 1099511627776) :
    Calls Try.prog 50 #[.slice A xs.length c] W fun e W' => ∃ A' c', e = .returned (.slice A' xs.length c') ∧ St W (owns []) W' [row A' xs.length c' (ci .i64 xs) 3 1] := by
  have HS : St W (owns []) W [] := St.start W _
  refine calls_enter [.slice A xs.length c, undef, undef, undef, undef, undef, undef, undef, undef, undef, undef, undef, undef, undef, undef, undef, undef, undef, undef, undef, undef, undef, undef] Try.func50 rfl (by kernel_rfl) ?_
  refine wp_seq ?_
  refine wp_region_lit ?_
  refine ql (.slice none 0 0) (by kernel_rfl) (by kernel_rfl) ?_
  refine wpList_nil ?_
  refine x_then ?_
  refine wp_seq ?_
  refine wp_region_lit ?_
  refine ql (.slice A xs.length c) (by kernel_rfl) (by kernel_rfl) ?_
  refine ql (.int .i64 (xs.length : Int)) (by kernel_rfl) (by kernel_rfl) ?_
  refine km HS (xs.length) [.int .i64 0] 8 (by kernel_rfl) (k_eq (k := .i64) (m := (xs.length : Int)) (by kernel_rfl) (by omega)) (k_eq (k := .i64) (m := (xs.length : Int)) (by kernel_rfl) (by omega)) Try.underlying28 (by kernel_rfl) (by kernel_rfl) (by kernel_rfl) (by decide) (by omega) (by omega) ?_
  intro g1 W2 H_
  replace HS : St W (owns []) W2 [row (some ⟨g1, 0, none⟩) xs.length xs.length (ci .i64 (List.replicate (xs.length) 0)) 3 1] := H_.cast_ (by rw [ci_rep]; rfl)
  clear H_
  have rlg1 : (List.replicate (xs.length) (0 : Int)).length = xs.length := List.length_replicate
  refine ql (.slice (some ⟨g1, 0, none⟩) xs.length xs.length) (by kernel_rfl) (by kernel_rfl) ?_
  refine wpList_nil ?_
  refine x_then ?_
  refine wp_seq ?_
  refine wp_seq ?_
  refine wp_region_lit ?_
  refine ql (.slice A xs.length c) (by kernel_rfl) (by kernel_rfl) ?_
  refine ql (.int .i64 (xs.length : Int)) (by kernel_rfl) (by kernel_rfl) ?_
  refine ql (.int .i64 0) (by kernel_rfl) (by kernel_rfl) ?_
  refine wpList_nil ?_
  refine x_then ?_
  refine wp_block ?_
  refine wp_loop_ghost (fun kq a' w' => ∃ (J3 : Nat → Value) (i : Int) (ys : List Int) , a' = Fr [.slice A xs.length c, undef, .slice none 0 0, .slice (some ⟨g1, 0, none⟩) xs.length xs.length, (J3 4), (J3 5), .slice A xs.length c, .int .i64 (xs.length : Int), .slice (some ⟨g1, 0, none⟩) xs.length xs.length, .slice A xs.length c, .int .i64 (xs.length : Int), .int .i64 i, (J3 12), (J3 13), (J3 14), (J3 15), (J3 16), (J3 17), (J3 18), (J3 19), (J3 20), (J3 21), undef] ∧ kq = (xs.length - (i).toNat) ∧ (0 ≤ i) ∧ (i ≤ xs.length) ∧ (ys = xs.take (i).toNat ++ List.replicate (xs.length - (i).toNat) 0) ∧ (ys.length = xs.length) ∧ St W (owns []) w' [row (some ⟨g1, 0, none⟩) xs.length xs.length (ci .i64 ys) 3 1]) (xs.length - ((0 : Int)).toNat) ⟨(fun k_ : Nat => List.getD [.slice A xs.length c, undef, .slice none 0 0, .slice (some ⟨g1, 0, none⟩) xs.length xs.length, undef, undef, .slice A xs.length c, .int .i64 (xs.length : Int), .slice (some ⟨g1, 0, none⟩) xs.length xs.length, .slice A xs.length c, .int .i64 (xs.length : Int), .int .i64 0, undef, undef, undef, undef, undef, undef, undef, undef, undef, undef, undef] k_ undef), (0 : Int), List.replicate xs.length 0, congrArg Fr (by kernel_rfl), rfl, by omega, by omega, by simp, by simp, HS⟩ ?_
  clear HS
  intro kq4 a' W5 hrel
  obtain ⟨J3, i, ys, rfl, hk, h0, h1, hy, hyl, HS⟩ := hrel
  refine wp_seq ?_
  refine wp_region_lit ?_
  by_cases hc6 : i < (xs.length : Int)
  · skip
    have hxb := hx _ (List.mem_of_getElem? (rdI_eq (xs := xs) h0 hc6))
    refine ql (.bool true) (by kernel_rfl) (R_bool (p := i < (xs.length : Int)) (by kernel_rfl) (hc6)) ?_
    refine wpList_nil ?_
    refine x_then ?_
    refine wp_seq ?_
    refine wp_cond_true (by kernel_rfl) ?_
    refine wp_skip ?_
    refine x_then ?_
    refine wp_seq ?_
    refine wp_block ?_
    refine wp_seq ?_
    refine wp_region_lit ?_
    refine ql (.int .i64 i) (by kernel_rfl) (by kernel_rfl) ?_
    obtain ⟨ad7, rfl⟩ := Rd.isSome_ hr (by rw [ci_len]; omega)
    refine ql (.pointer (some (ad7.add i.toNat))) (by kernel_rfl) (R_indexA1 (k := .i64) (p := ad7) (n := xs.length) (c := c) (i := i) (by kernel_rfl) (by kernel_rfl) Try.underlying67 (by kernel_rfl) (by omega) (by omega)) ?_
    refine ql (.int .i32 (rdI xs i)) (by kernel_rfl) (R_load (p := ad7.add i.toNat) (by kernel_rfl) (by kernel_rfl) (by kernel_rfl) (HS.old0 (hr.at_ (ci_rd (by omega) (by omega))))) ?_
    refine ql (.int .i64 i) (by kernel_rfl) (by kernel_rfl) ?_
    refine ql (.int .i32 (rdI xs i)) (by kernel_rfl) (by kernel_rfl) ?_
    refine wpList_nil ?_
    refine x_then ?_
    refine wp_region_lit ?_
    refine ql (.slice (some ⟨g1, 0, none⟩) xs.length xs.length) (by kernel_rfl) (by kernel_rfl) ?_
    refine ql (.int .i64 i) (by kernel_rfl) (by kernel_rfl) ?_
    refine ql (.int .i32 (rdI xs i)) (by kernel_rfl) (by kernel_rfl) ?_
    refine ql (.int .i64 (rdI xs i)) (by kernel_rfl) (R_int (by kernel_rfl) (w64 (by omega))) ?_
    refine ql (.pointer (some ⟨g1, i.toNat, none⟩)) (by kernel_rfl) (R_index1 (k := .i64) (g := g1) (n := xs.length) (c := xs.length) (i := i) (by kernel_rfl) (by kernel_rfl) Try.underlying28 (by kernel_rfl) (by omega) (by omega)) ?_
    refine kr (v := .int .i64 (rdI xs i)) HS 0 rfl (i.toNat) [.int .i64 (rdI xs i)] (by kernel_rfl) (by kernel_rfl) (by kernel_rfl) (by kernel_rfl) (by kernel_rfl) (one_ (by kernel_rfl)) (by rw [ci_len]; first | omega | (simp only [List.length_singleton]; omega)) rfl ?_
    intro W8 H_
    obtain ⟨xs9, xs9_⟩ : ∃ z_ : List Int, z_ = (ys).set i.toNat (rdI xs i) := ⟨_, rfl⟩
    replace HS : St W (owns []) W8 [row (some ⟨g1, 0, none⟩) xs.length xs.length (ci .i64 xs9) 3 1] := H_.cast_ (by rw [xs9_, ← ci_set]; rfl)
    clear H_
    have xs9l : xs9.length = xs.length := by rw [xs9_, List.length_set]; first | done | omega
    refine wpList_nil ?_
    refine x_inb ?_
    refine x_then ?_
    refine wp_region_lit ?_
    refine ql (.int .i64 (i + 1)) (by kernel_rfl) (R_int (by kernel_rfl) (w64 (by omega))) ?_
    refine ql (.int .i64 (i + 1)) (by kernel_rfl) (by kernel_rfl) ?_
    refine wpList_nil ?_
    refine x_then ?_
    exact ⟨xs.length - (i + 1).toNat, by omega, (fun k_ : Nat => List.getD [.slice (some ad7) xs.length c, undef, .slice none 0 0, .slice (some ⟨g1, 0, none⟩) xs.length xs.length, .int .i64 i, .int .i32 (rdI xs i), .slice (some ad7) xs.length c, .int .i64 (xs.length : Int), .slice (some ⟨g1, 0, none⟩) xs.length xs.length, .slice (some ad7) xs.length c, .int .i64 (xs.length : Int), .int .i64 (i + 1), .bool true, .int .i64 i, .pointer (some (ad7.add i.toNat)), .int .i32 (rdI xs i), .slice (some ⟨g1, 0, none⟩) xs.length xs.length, .int .i64 i, .int .i32 (rdI xs i), .int .i64 (rdI xs i), .pointer (some ⟨g1, i.toNat, none⟩), .int .i64 (i + 1), undef] k_ undef), i + 1, xs9, congrArg Fr (by kernel_rfl), rfl, by omega, by omega, ints_step hy xs9_ (by omega) (by omega), xs9l, HS⟩
  · skip
    have hys : xs = ys := by rw [hy, List.take_of_length_le (by omega), show xs.length - i.toNat = 0 by omega]; simp
    subst hys
    refine ql (.bool false) (by kernel_rfl) (R_nbool (p := i < (xs.length : Int)) (by kernel_rfl) (hc6)) ?_
    refine wpList_nil ?_
    refine x_then ?_
    refine wp_seq ?_
    refine wp_cond_false (by kernel_rfl) ?_
    refine wp_exit ?_
    refine x_thenE ?_
    refine x_thenE ?_
    refine x_hit ?_
    refine x_then ?_
    refine wp_seq ?_
    refine wp_region_lit ?_
    refine ql (.slice (some ⟨g1, 0, none⟩) xs.length xs.length) (by kernel_rfl) (by kernel_rfl) ?_
    refine ql (.slice (some ⟨g1, 0, none⟩) xs.length xs.length) (by kernel_rfl) (by kernel_rfl) ?_
    refine wpList_nil ?_
    refine x_then ?_
    refine wp_ret ?_
    refine ret_ (.slice (some ⟨g1, 0, none⟩) xs.length xs.length) (by kernel_rfl) ?_
    exact ⟨_, _, rfl, HS⟩

set_option maxRecDepth 100000 in
set_option maxHeartbeats 1000000 in
theorem node_true (x y : Int) (gb : Nat) (W : World) (hc : W.cell? ⟨gb, 0, none⟩ = some (.bool true)) : Calls Try.prog 63 #[.agg #[.int .i64 x, .int .i64 y], .pointer (some ⟨gb, 0, none⟩)] W fun e W' => e = .returned (.int .i64 y) ∧ St W (owns []) W' [] := by
  have HS : St W (owns []) W [] := St.start W _
  refine calls_enter [.agg #[.int .i64 x, .int .i64 y], .pointer (some ⟨gb, 0, none⟩), undef, undef, undef, undef, undef, undef, undef] Try.func63 rfl (by kernel_rfl) ?_
  refine wp_seq ?_
  refine wp_region_lit ?_
  refine kb HS [.int .i64 x, .int .i64 y] 35 (fun g => .pointer (some ⟨g, 0, none⟩)) (by kernel_rfl) (by kernel_rfl) ?_
  intro g1 W2 H_
  replace HS : St W (owns []) W2 [blk g1 [.int .i64 x, .int .i64 y] 35] := H_
  clear H_
  refine ql (.int .i64 0) (by kernel_rfl) (by kernel_rfl) ?_
  refine wpList_nil ?_
  refine x_then ?_
  refine wp_seq ?_
  refine wp_seq ?_
  refine wp_region_lit ?_
  refine ql (.bool true) (by kernel_rfl) (R_load (p := ⟨gb, 0, none⟩) (by kernel_rfl) (by kernel_rfl) (by kernel_rfl) (HS.old0 hc)) ?_
  refine wpList_nil ?_
  refine x_then ?_
  refine wp_cond_true (by kernel_rfl) ?_
  refine wp_seq ?_
  refine wp_region_lit ?_
  refine ql (.pointer (some ⟨g1, 1, none⟩)) (by kernel_rfl) (by kernel_rfl) ?_
  refine ql (.int .i64 y) (by kernel_rfl) (R_load (p := ⟨g1, 1, none⟩) (by kernel_rfl) (by kernel_rfl) (by kernel_rfl) (HS.cell (i := 0) (j := 1) rfl rfl)) ?_
  refine ql (.int .i64 y) (by kernel_rfl) (by kernel_rfl) ?_
  refine wpList_nil ?_
  refine x_then ?_
  refine wp_ret ?_
  refine x_thenR ?_
  refine ret_ (.int .i64 y) (by kernel_rfl) ?_
  exact ⟨rfl, HS.tail (F := [blk g1 [.int .i64 x, .int .i64 y] 35])⟩

set_option maxRecDepth 100000 in
set_option maxHeartbeats 1000000 in
theorem node_false (x y : Int) (gb : Nat) (W : World) (hc : W.cell? ⟨gb, 0, none⟩ = some (.bool false)) : Calls Try.prog 63 #[.agg #[.int .i64 x, .int .i64 y], .pointer (some ⟨gb, 0, none⟩)] W fun e W' => e = .returned (.int .i64 x) ∧ St W (owns []) W' [] := by
  have HS : St W (owns []) W [] := St.start W _
  refine calls_enter [.agg #[.int .i64 x, .int .i64 y], .pointer (some ⟨gb, 0, none⟩), undef, undef, undef, undef, undef, undef, undef] Try.func63 rfl (by kernel_rfl) ?_
  refine wp_seq ?_
  refine wp_region_lit ?_
  refine kb HS [.int .i64 x, .int .i64 y] 35 (fun g => .pointer (some ⟨g, 0, none⟩)) (by kernel_rfl) (by kernel_rfl) ?_
  intro g1 W2 H_
  replace HS : St W (owns []) W2 [blk g1 [.int .i64 x, .int .i64 y] 35] := H_
  clear H_
  refine ql (.int .i64 0) (by kernel_rfl) (by kernel_rfl) ?_
  refine wpList_nil ?_
  refine x_then ?_
  refine wp_seq ?_
  refine wp_seq ?_
  refine wp_region_lit ?_
  refine ql (.bool false) (by kernel_rfl) (R_load (p := ⟨gb, 0, none⟩) (by kernel_rfl) (by kernel_rfl) (by kernel_rfl) (HS.old0 hc)) ?_
  refine wpList_nil ?_
  refine x_then ?_
  refine wp_cond_false (by kernel_rfl) ?_
  refine wp_skip ?_
  refine x_then ?_
  refine wp_seq ?_
  refine wp_region_lit ?_
  refine ql (.pointer (some ⟨g1, 0, none⟩)) (by kernel_rfl) (by kernel_rfl) ?_
  refine ql (.int .i64 x) (by kernel_rfl) (R_load (p := ⟨g1, 0, none⟩) (by kernel_rfl) (by kernel_rfl) (by kernel_rfl) (HS.cell (i := 0) (j := 0) rfl rfl)) ?_
  refine ql (.int .i64 x) (by kernel_rfl) (by kernel_rfl) ?_
  refine wpList_nil ?_
  refine x_then ?_
  refine wp_ret ?_
  refine ret_ (.int .i64 x) (by kernel_rfl) ?_
  exact ⟨rfl, HS.tail (F := [blk g1 [.int .i64 x, .int .i64 y] 35])⟩

theorem node_calls (b : Bool) (x y : Int) (gb : Nat) (W : World) (hc : W.cell? ⟨gb, 0, none⟩ = some (.bool b)) : Calls Try.prog 63 #[.agg #[.int .i64 x, .int .i64 y], .pointer (some ⟨gb, 0, none⟩)] W fun e W' => e = .returned (.int .i64 (key b (x, y))) ∧ St W (owns []) W' [] := by
  cases b
  · rw [show key false (x, y) = x from by unfold key; rfl]; exact node_false x y gb W hc
  · rw [show key true (x, y) = y from by unfold key; rfl]; exact node_true x y gb W hc

set_option maxRecDepth 100000 in
set_option maxHeartbeats 1000000 in
theorem lay_calls (N : Nat) (A : Option Addr) (c : Nat) (arcs : List (Int × Int)) (b : Bool) (W : World) (hr : Rd W A (cf arcC arcs)) (hF : Fine N arcs) (hN : N ≤ 1048576) (hm : arcs.length ≤ 67108864) :
    Calls Try.prog 61 #[.int .i64 (N : Int), .slice A arcs.length c, .bool b] W fun e W' => ∃ A1 c1 A2 c2 os, e = .returned (.tuple #[.slice A1 arcs.length c1, .slice A2 (N + 1) c2]) ∧ St W (owns []) W' [row A1 arcs.length c1 (ci .i32 os) 21 1, row A2 (N + 1) c2 (ci .i32 (bl N (keys b arcs))) 21 1] ∧ Laid (keys b arcs) arcs.length (keys b arcs).length os := by
  have HS : St W (owns []) W [] := St.start W _
  refine calls_enter ((.int .i64 (N : Int)) :: (.slice A arcs.length c) :: (.bool b) :: undef :: undef :: undef :: undef :: undef :: undef :: undef :: undef :: undef :: undef :: undef :: undef :: undef :: undef :: undef :: undef :: undef :: undef :: undef :: undef :: undef :: undef :: undef :: undef :: undef :: undef :: undef :: undef :: undef :: undef :: undef :: undef :: undef :: undef :: undef :: undef :: undef :: undef :: undef :: undef :: undef :: undef :: undef :: undef :: undef :: undef :: undef :: undef :: undef :: undef :: undef :: undef :: undef :: undef :: undef :: undef :: undef :: undef :: undef :: undef :: undef :: undef :: undef :: undef :: undef :: undef :: undef :: undef :: undef :: undef :: undef :: undef :: undef :: undef :: undef :: undef :: undef :: undef :: undef :: undef :: undef :: undef :: undef :: []) Try.func61 rfl (by kernel_rfl) ?_
  refine wp_seq ?_
  refine wp_region_lit ?_
  refine kb HS [.bool b] 4 (fun g => .pointer (some ⟨g, 0, none⟩)) (by kernel_rfl) (by kernel_rfl) ?_
  intro g1 W2 H_
  replace HS : St W (owns []) W2 [blk g1 [.bool b] 4] := H_
  clear H_
  refine ql (.slice none 0 0) (by kernel_rfl) (by kernel_rfl) ?_
  refine ql (.slice none 0 0) (by kernel_rfl) (by kernel_rfl) ?_
  refine wpList_nil ?_
  refine x_then ?_
  refine wp_seq ?_
  refine wp_region_lit ?_
  refine ql (.func (.func 63) #[] #[.pointer (some ⟨g1, 0, none⟩)]) (by kernel_rfl) (by kernel_rfl) ?_
  refine ql (.func (.func 63) #[] #[.pointer (some ⟨g1, 0, none⟩)]) (by kernel_rfl) (by kernel_rfl) ?_
  refine wpList_nil ?_
  refine x_then ?_
  refine wp_seq ?_
  refine wp_region_lit ?_
  refine ql (.int .i64 (N : Int)) (by kernel_rfl) (by kernel_rfl) ?_
  refine ql (.int .i64 ((N : Int) + 1)) (by kernel_rfl) (R_int (by kernel_rfl) (w64 (by omega))) ?_
  refine km HS (N + 1) [.int .i32 0] 4 (by kernel_rfl) (k_eq (k := .i64) (m := (N : Int) + 1) (by kernel_rfl) (by omega)) (k_eq (k := .i64) (m := (N : Int) + 1) (by kernel_rfl) (by omega)) Try.underlying67 (by kernel_rfl) (by kernel_rfl) (by kernel_rfl) (by decide) (by omega) (by omega) ?_
  intro g3 W4 H_
  replace HS : St W (owns []) W4 [row (some ⟨g3, 0, none⟩) (N + 1) (N + 1) (ci .i32 (List.replicate (N + 1) 0)) 21 1, blk g1 [.bool b] 4] := H_.cast_ (by rw [ci_rep]; rfl)
  clear H_
  have rlg3 : (List.replicate (N + 1) (0 : Int)).length = N + 1 := List.length_replicate
  refine ql (.slice (some ⟨g3, 0, none⟩) (N + 1) (N + 1)) (by kernel_rfl) (by kernel_rfl) ?_
  refine wpList_nil ?_
  refine x_then ?_
  refine wp_seq ?_
  refine wp_seq ?_
  refine wp_region_lit ?_
  refine ql (.slice A arcs.length c) (by kernel_rfl) (by kernel_rfl) ?_
  refine ql (.int .i64 (arcs.length : Int)) (by kernel_rfl) (by kernel_rfl) ?_
  refine ql (.int .i64 0) (by kernel_rfl) (by kernel_rfl) ?_
  refine wpList_nil ?_
  refine x_then ?_
  refine wp_block ?_
  refine wp_loop_ghost (fun kq a' w' => ∃ (J5 : Nat → Value) (i : Int) (bs : List Int) , a' = Fr ((.int .i64 (N : Int)) :: (.slice A arcs.length c) :: (.bool b) :: undef :: undef :: (.pointer (some ⟨g1, 0, none⟩)) :: (.slice none 0 0) :: (.slice none 0 0) :: (.func (.func 63) #[] #[.pointer (some ⟨g1, 0, none⟩)]) :: (.slice (some ⟨g3, 0, none⟩) (N + 1) (N + 1)) :: undef :: ((J5 11)) :: undef :: undef :: undef :: undef :: undef :: undef :: (.func (.func 63) #[] #[.pointer (some ⟨g1, 0, none⟩)]) :: (.int .i64 (N : Int)) :: (.int .i64 ((N : Int) + 1)) :: (.slice (some ⟨g3, 0, none⟩) (N + 1) (N + 1)) :: (.slice A arcs.length c) :: (.int .i64 (arcs.length : Int)) :: (.int .i64 i) :: ((J5 25)) :: ((J5 26)) :: ((J5 27)) :: ((J5 28)) :: ((J5 29)) :: ((J5 30)) :: ((J5 31)) :: ((J5 32)) :: ((J5 33)) :: ((J5 34)) :: ((J5 35)) :: ((J5 36)) :: ((J5 37)) :: undef :: undef :: undef :: undef :: undef :: undef :: undef :: undef :: undef :: undef :: undef :: undef :: undef :: undef :: undef :: undef :: undef :: undef :: undef :: undef :: undef :: undef :: undef :: undef :: undef :: undef :: undef :: undef :: undef :: undef :: undef :: undef :: undef :: undef :: undef :: undef :: undef :: undef :: undef :: undef :: undef :: undef :: undef :: undef :: undef :: undef :: undef :: undef :: []) ∧ kq = (arcs.length - (i).toNat) ∧ (0 ≤ i) ∧ (i ≤ arcs.length) ∧ (bs = bg N ((keys b arcs).take (i).toNat)) ∧ St W (owns []) w' [row (some ⟨g3, 0, none⟩) (N + 1) (N + 1) (ci .i32 bs) 21 1, blk g1 [.bool b] 4]) (arcs.length - ((0 : Int)).toNat) ⟨(fun k_ : Nat => List.getD ((.int .i64 (N : Int)) :: (.slice A arcs.length c) :: (.bool b) :: undef :: undef :: (.pointer (some ⟨g1, 0, none⟩)) :: (.slice none 0 0) :: (.slice none 0 0) :: (.func (.func 63) #[] #[.pointer (some ⟨g1, 0, none⟩)]) :: (.slice (some ⟨g3, 0, none⟩) (N + 1) (N + 1)) :: undef :: undef :: undef :: undef :: undef :: undef :: undef :: undef :: (.func (.func 63) #[] #[.pointer (some ⟨g1, 0, none⟩)]) :: (.int .i64 (N : Int)) :: (.int .i64 ((N : Int) + 1)) :: (.slice (some ⟨g3, 0, none⟩) (N + 1) (N + 1)) :: (.slice A arcs.length c) :: (.int .i64 (arcs.length : Int)) :: (.int .i64 0) :: undef :: undef :: undef :: undef :: undef :: undef :: undef :: undef :: undef :: undef :: undef :: undef :: undef :: undef :: undef :: undef :: undef :: undef :: undef :: undef :: undef :: undef :: undef :: undef :: undef :: undef :: undef :: undef :: undef :: undef :: undef :: undef :: undef :: undef :: undef :: undef :: undef :: undef :: undef :: undef :: undef :: undef :: undef :: undef :: undef :: undef :: undef :: undef :: undef :: undef :: undef :: undef :: undef :: undef :: undef :: undef :: undef :: undef :: undef :: undef :: undef :: []) k_ undef), (0 : Int), List.replicate (N + 1) 0, congrArg Fr (by kernel_rfl), rfl, by omega, by omega, by rw [← bg_nil]; rfl, HS⟩ ?_
  clear HS
  intro kq6 a' W7 hrel
  obtain ⟨J5, i, bs, rfl, hk, h0, h1, hb, HS⟩ := hrel
  have hbl : bs.length = N + 1 := by rw [hb]; simp [bg]
  refine wp_seq ?_
  refine wp_region_lit ?_
  by_cases hc8 : i < (arcs.length : Int)
  · skip
    refine ql (.bool true) (by kernel_rfl) (R_bool (p := i < (arcs.length : Int)) (by kernel_rfl) (hc8)) ?_
    refine wpList_nil ?_
    refine x_then ?_
    refine wp_seq ?_
    refine wp_cond_true (by kernel_rfl) ?_
    refine wp_skip ?_
    refine x_then ?_
    refine wp_seq ?_
    refine wp_block ?_
    refine wp_seq ?_
    refine wp_region_lit ?_
    obtain ⟨ad9, rfl⟩ := Rd.isSome_ hr (by rw [cf_len (z := 2) (fun _ => rfl)]; omega)
    refine ql (.pointer (some (ad9.add (i.toNat * 2)))) (by kernel_rfl) (R_indexA (k := .i64) (p := ad9) (n := arcs.length) (c := c) (i := i) (by kernel_rfl) (by kernel_rfl) Try.underlying65 (by kernel_rfl) (by omega) (by omega)) ?_
    refine ql (.agg #[.int .i64 ((gx arcs i).1), .int .i64 ((gx arcs i).2)]) (by kernel_rfl) (R_loadN (p := ad9.add (i.toNat * 2)) [.int .i64 ((gx arcs i).1), .int .i64 ((gx arcs i).2)] (by kernel_rfl) (by kernel_rfl) (by kernel_rfl) (by kernel_rfl) (HS.oldN (Rd.elem (f := arcC) (fun _ => rfl) hr (gx_eq (by omega) (by omega))))) ?_
    refine kb HS [.int .i64 0, .int .i64 0] 35 (fun g => .pointer (some ⟨g, 0, none⟩)) (by kernel_rfl) (by kernel_rfl) ?_
    intro g10 W11 H_
    replace HS : St W (owns []) W11 [blk g10 [.int .i64 0, .int .i64 0] 35, row (some ⟨g3, 0, none⟩) (N + 1) (N + 1) (ci .i32 bs) 21 1, blk g1 [.bool b] 4] := H_
    clear H_
    refine ks (v := .agg #[.int .i64 ((gx arcs i).1), .int .i64 ((gx arcs i).2)]) HS 0 rfl (0) [.int .i64 ((gx arcs i).1), .int .i64 ((gx arcs i).2)] (by kernel_rfl) (by kernel_rfl) (by kernel_rfl) (by kernel_rfl) (by kernel_rfl) (one_ (by kernel_rfl)) (Nat.le_of_ble_eq_true rfl) rfl ?_
    intro W12 H_
    replace HS : St W (owns []) W12 [blk g10 [.int .i64 ((gx arcs i).1), .int .i64 ((gx arcs i).2)] 35, row (some ⟨g3, 0, none⟩) (N + 1) (N + 1) (ci .i32 bs) 21 1, blk g1 [.bool b] 4] := H_
    clear H_
    refine wpList_nil ?_
    refine x_then ?_
    have kf := key_fine hF (b := b) h0 hc8
    have kr_ := bg_rd (N := N) (ks := (keys b arcs).take i.toNat) (v := key b (gx arcs i) + 1) (by omega) (by omega)
    rw [← hb] at kr_
    have kl_ := cnt_le ((keys b arcs).take i.toNat) (key b (gx arcs i) + 1 - 1)
    have km_ : ((keys b arcs).take i.toNat).length ≤ arcs.length := by rw [List.length_take, keys_len]; omega
    refine wp_region_lit ?_
    refine ql (.slice (some ⟨g3, 0, none⟩) (N + 1) (N + 1)) (by kernel_rfl) (by kernel_rfl) ?_
    refine ql (.func (.func 63) #[] #[.pointer (some ⟨g1, 0, none⟩)]) (by kernel_rfl) (by kernel_rfl) ?_
    refine ql (.agg #[.int .i64 ((gx arcs i).1), .int .i64 ((gx arcs i).2)]) (by kernel_rfl) (R_loadN (p := ⟨g10, 0, none⟩) [.int .i64 ((gx arcs i).1), .int .i64 ((gx arcs i).2)] (by kernel_rfl) (by kernel_rfl) (by kernel_rfl) (by kernel_rfl) (two_at (HS.cell (i := 0) (j := 0) rfl rfl) (HS.cell (i := 0) (j := 1) rfl rfl))) ?_
    refine qc (f := 63) (args := #[.agg #[.int .i64 ((gx arcs i).1), .int .i64 ((gx arcs i).2)], .pointer (some ⟨g1, 0, none⟩)]) (by kernel_rfl) (R_callv (caps := #[.pointer (some ⟨g1, 0, none⟩)]) #[.agg #[.int .i64 ((gx arcs i).1), .int .i64 ((gx arcs i).2)], .pointer (some ⟨g1, 0, none⟩)] (by kernel_rfl) Try.func63 (by kernel_rfl) (by kernel_rfl) (by kernel_rfl)) ?_
    refine (node_calls b ((gx arcs i).1) ((gx arcs i).2) g1 _ (HS.cell (i := 2) (j := 0) rfl rfl)).mono ?_
    rintro e W13 ⟨rfl, H_⟩
    refine ⟨_, rfl, ?_⟩
    replace HS : St W (owns []) W13 [blk g10 [.int .i64 ((gx arcs i).1), .int .i64 ((gx arcs i).2)] 35, row (some ⟨g3, 0, none⟩) (N + 1) (N + 1) (ci .i32 bs) 21 1, blk g1 [.bool b] 4] := HS.join (F := []) (G := []) H_
    clear H_
    refine ql (.int .i64 ((key b (gx arcs i)) + 1)) (by kernel_rfl) (R_int (by kernel_rfl) (w64 (by omega))) ?_
    refine ql (.pointer (some ⟨g3, ((key b (gx arcs i)) + 1).toNat, none⟩)) (by kernel_rfl) (R_index1 (k := .i64) (g := g3) (n := (N + 1)) (c := (N + 1)) (i := (key b (gx arcs i)) + 1) (by kernel_rfl) (by kernel_rfl) Try.underlying67 (by kernel_rfl) (by omega) (by omega)) ?_
    refine ql (.int .i32 (rdI bs ((key b (gx arcs i)) + 1))) (by kernel_rfl) (R_load (p := ⟨g3, ((key b (gx arcs i)) + 1).toNat, none⟩) (by kernel_rfl) (by kernel_rfl) (by kernel_rfl) (HS.rcell (i := 1) rfl (ci_rd (by omega) (by omega)))) ?_
    refine ql (.int .i32 ((rdI bs ((key b (gx arcs i)) + 1)) + 1)) (by kernel_rfl) (R_int (by kernel_rfl) (w32 (by omega))) ?_
    refine ql (.pointer (some ⟨g3, ((key b (gx arcs i)) + 1).toNat, none⟩)) (by kernel_rfl) (R_index1 (k := .i64) (g := g3) (n := (N + 1)) (c := (N + 1)) (i := (key b (gx arcs i)) + 1) (by kernel_rfl) (by kernel_rfl) Try.underlying67 (by kernel_rfl) (by omega) (by omega)) ?_
    refine kr (v := .int .i32 ((rdI bs ((key b (gx arcs i)) + 1)) + 1)) HS 1 rfl (((key b (gx arcs i)) + 1).toNat) [.int .i32 ((rdI bs ((key b (gx arcs i)) + 1)) + 1)] (by kernel_rfl) (by kernel_rfl) (by kernel_rfl) (by kernel_rfl) (by kernel_rfl) (one_ (by kernel_rfl)) (by rw [ci_len]; first | omega | (simp only [List.length_singleton]; omega)) rfl ?_
    intro W14 H_
    obtain ⟨xs15, xs15_⟩ : ∃ z_ : List Int, z_ = (bs).set ((key b (gx arcs i)) + 1).toNat ((rdI bs ((key b (gx arcs i)) + 1)) + 1) := ⟨_, rfl⟩
    replace HS : St W (owns []) W14 [blk g10 [.int .i64 ((gx arcs i).1), .int .i64 ((gx arcs i).2)] 35, row (some ⟨g3, 0, none⟩) (N + 1) (N + 1) (ci .i32 xs15) 21 1, blk g1 [.bool b] 4] := H_.cast_ (by rw [xs15_, ← ci_set]; rfl)
    clear H_
    have xs15l : xs15.length = N + 1 := by rw [xs15_, List.length_set]; first | done | omega
    refine wpList_nil ?_
    refine x_inb ?_
    refine x_then ?_
    refine wp_region_lit ?_
    refine ql (.int .i64 (i + 1)) (by kernel_rfl) (R_int (by kernel_rfl) (w64 (by omega))) ?_
    refine ql (.int .i64 (i + 1)) (by kernel_rfl) (by kernel_rfl) ?_
    refine wpList_nil ?_
    replace HS := HS.drop1
    have e_ : xs15 = bg N ((keys b arcs).take (i + 1).toNat) := by rw [xs15_, hb, show (i + 1).toNat = i.toNat + 1 by omega]; exact bg_step (keys_get h0 (by omega)) kf.1 kf.2
    refine x_then ?_
    exact ⟨arcs.length - (i + 1).toNat, by omega, (fun k_ : Nat => List.getD ((.int .i64 (N : Int)) :: (.slice (some ad9) arcs.length c) :: (.bool b) :: undef :: undef :: (.pointer (some ⟨g1, 0, none⟩)) :: (.slice none 0 0) :: (.slice none 0 0) :: (.func (.func 63) #[] #[.pointer (some ⟨g1, 0, none⟩)]) :: (.slice (some ⟨g3, 0, none⟩) (N + 1) (N + 1)) :: undef :: (.pointer (some ⟨g10, 0, none⟩)) :: undef :: undef :: undef :: undef :: undef :: undef :: (.func (.func 63) #[] #[.pointer (some ⟨g1, 0, none⟩)]) :: (.int .i64 (N : Int)) :: (.int .i64 ((N : Int) + 1)) :: (.slice (some ⟨g3, 0, none⟩) (N + 1) (N + 1)) :: (.slice (some ad9) arcs.length c) :: (.int .i64 (arcs.length : Int)) :: (.int .i64 (i + 1)) :: (.bool true) :: (.pointer (some (ad9.add (i.toNat * 2)))) :: (.agg #[.int .i64 ((gx arcs i).1), .int .i64 ((gx arcs i).2)]) :: (.slice (some ⟨g3, 0, none⟩) (N + 1) (N + 1)) :: (.func (.func 63) #[] #[.pointer (some ⟨g1, 0, none⟩)]) :: (.agg #[.int .i64 ((gx arcs i).1), .int .i64 ((gx arcs i).2)]) :: (.int .i64 (key b (gx arcs i))) :: (.int .i64 ((key b (gx arcs i)) + 1)) :: (.pointer (some ⟨g3, ((key b (gx arcs i)) + 1).toNat, none⟩)) :: (.int .i32 (rdI bs ((key b (gx arcs i)) + 1))) :: (.int .i32 ((rdI bs ((key b (gx arcs i)) + 1)) + 1)) :: (.pointer (some ⟨g3, ((key b (gx arcs i)) + 1).toNat, none⟩)) :: (.int .i64 (i + 1)) :: undef :: undef :: undef :: undef :: undef :: undef :: undef :: undef :: undef :: undef :: undef :: undef :: undef :: undef :: undef :: undef :: undef :: undef :: undef :: undef :: undef :: undef :: undef :: undef :: undef :: undef :: undef :: undef :: undef :: undef :: undef :: undef :: undef :: undef :: undef :: undef :: undef :: undef :: undef :: undef :: undef :: undef :: undef :: undef :: undef :: undef :: undef :: undef :: []) k_ undef), i + 1, xs15, congrArg Fr (by kernel_rfl), rfl, by omega, by omega, e_, HS⟩
  · skip
    refine ql (.bool false) (by kernel_rfl) (R_nbool (p := i < (arcs.length : Int)) (by kernel_rfl) (hc8)) ?_
    refine wpList_nil ?_
    refine x_then ?_
    refine wp_seq ?_
    refine wp_cond_false (by kernel_rfl) ?_
    refine wp_exit ?_
    refine x_thenE ?_
    refine x_thenE ?_
    refine x_hit ?_
    refine x_then ?_
    refine wp_seq ?_
    refine wp_seq ?_
    refine wp_region_lit ?_
    refine ql (.int .i64 (N : Int)) (by kernel_rfl) (by kernel_rfl) ?_
    refine ql (.int .i64 0) (by kernel_rfl) (by kernel_rfl) ?_
    refine wpList_nil ?_
    refine x_then ?_
    refine wp_block ?_
    have hb2 : bs = bm N (keys b arcs) 0 := by rw [hb, List.take_of_length_le (by rw [keys_len]; omega)]; exact bg_bm (fun k hk => (keys_fine hF k hk).1)
    refine wp_loop_ghost (fun kq a' w' => ∃ (J16 : Nat → Value) (k : Int) (ds : List Int) , a' = Fr ((.int .i64 (N : Int)) :: (.slice A arcs.length c) :: (.bool b) :: undef :: undef :: (.pointer (some ⟨g1, 0, none⟩)) :: (.slice none 0 0) :: (.slice none 0 0) :: (.func (.func 63) #[] #[.pointer (some ⟨g1, 0, none⟩)]) :: (.slice (some ⟨g3, 0, none⟩) (N + 1) (N + 1)) :: undef :: ((J5 11)) :: ((J16 12)) :: undef :: undef :: undef :: undef :: undef :: (.func (.func 63) #[] #[.pointer (some ⟨g1, 0, none⟩)]) :: (.int .i64 (N : Int)) :: (.int .i64 ((N : Int) + 1)) :: (.slice (some ⟨g3, 0, none⟩) (N + 1) (N + 1)) :: (.slice A arcs.length c) :: (.int .i64 (arcs.length : Int)) :: (.int .i64 i) :: (.bool false) :: ((J5 26)) :: ((J5 27)) :: ((J5 28)) :: ((J5 29)) :: ((J5 30)) :: ((J5 31)) :: ((J5 32)) :: ((J5 33)) :: ((J5 34)) :: ((J5 35)) :: ((J5 36)) :: ((J5 37)) :: (.int .i64 (N : Int)) :: (.int .i64 k) :: ((J16 40)) :: ((J16 41)) :: ((J16 42)) :: ((J16 43)) :: ((J16 44)) :: ((J16 45)) :: ((J16 46)) :: ((J16 47)) :: ((J16 48)) :: ((J16 49)) :: ((J16 50)) :: ((J16 51)) :: ((J16 52)) :: ((J16 53)) :: undef :: undef :: undef :: undef :: undef :: undef :: undef :: undef :: undef :: undef :: undef :: undef :: undef :: undef :: undef :: undef :: undef :: undef :: undef :: undef :: undef :: undef :: undef :: undef :: undef :: undef :: undef :: undef :: undef :: undef :: undef :: undef :: []) ∧ kq = (N - (k).toNat) ∧ (0 ≤ k) ∧ (k ≤ N) ∧ (ds = bm N (keys b arcs) (k).toNat) ∧ St W (owns []) w' [row (some ⟨g3, 0, none⟩) (N + 1) (N + 1) (ci .i32 ds) 21 1, blk g1 [.bool b] 4]) (N - ((0 : Int)).toNat) ⟨(fun k_ : Nat => List.getD ((.int .i64 (N : Int)) :: (.slice A arcs.length c) :: (.bool b) :: undef :: undef :: (.pointer (some ⟨g1, 0, none⟩)) :: (.slice none 0 0) :: (.slice none 0 0) :: (.func (.func 63) #[] #[.pointer (some ⟨g1, 0, none⟩)]) :: (.slice (some ⟨g3, 0, none⟩) (N + 1) (N + 1)) :: undef :: ((J5 11)) :: undef :: undef :: undef :: undef :: undef :: undef :: (.func (.func 63) #[] #[.pointer (some ⟨g1, 0, none⟩)]) :: (.int .i64 (N : Int)) :: (.int .i64 ((N : Int) + 1)) :: (.slice (some ⟨g3, 0, none⟩) (N + 1) (N + 1)) :: (.slice A arcs.length c) :: (.int .i64 (arcs.length : Int)) :: (.int .i64 i) :: (.bool false) :: ((J5 26)) :: ((J5 27)) :: ((J5 28)) :: ((J5 29)) :: ((J5 30)) :: ((J5 31)) :: ((J5 32)) :: ((J5 33)) :: ((J5 34)) :: ((J5 35)) :: ((J5 36)) :: ((J5 37)) :: (.int .i64 (N : Int)) :: (.int .i64 0) :: undef :: undef :: undef :: undef :: undef :: undef :: undef :: undef :: undef :: undef :: undef :: undef :: undef :: undef :: undef :: undef :: undef :: undef :: undef :: undef :: undef :: undef :: undef :: undef :: undef :: undef :: undef :: undef :: undef :: undef :: undef :: undef :: undef :: undef :: undef :: undef :: undef :: undef :: undef :: undef :: undef :: undef :: undef :: undef :: undef :: undef :: []) k_ undef), (0 : Int), bs, congrArg Fr (by kernel_rfl), rfl, by omega, by omega, hb2, HS⟩ ?_
    clear HS
    intro kq17 a' W18 hrel
    obtain ⟨J16, k, ds, rfl, hk, h0, h1, hb, HS⟩ := hrel
    have hbl : ds.length = N + 1 := by rw [hb]; simp [bm]
    refine wp_seq ?_
    refine wp_region_lit ?_
    by_cases hc19 : k < (N : Int)
    · skip
      refine ql (.bool true) (by kernel_rfl) (R_bool (p := k < (N : Int)) (by kernel_rfl) (hc19)) ?_
      refine wpList_nil ?_
      refine x_then ?_
      refine wp_seq ?_
      refine wp_cond_true (by kernel_rfl) ?_
      refine wp_skip ?_
      refine x_then ?_
      refine wp_seq ?_
      refine wp_block ?_
      refine wp_seq ?_
      refine wp_region_lit ?_
      refine ql (.int .i64 k) (by kernel_rfl) (by kernel_rfl) ?_
      refine ql (.int .i64 k) (by kernel_rfl) (by kernel_rfl) ?_
      refine wpList_nil ?_
      refine x_then ?_
      have r1 := bm_rd (N := N) (ks := keys b arcs) (k := k.toNat) (v := k + 1) (by omega) (by omega)
      have r2 := bm_rd (N := N) (ks := keys b arcs) (k := k.toNat) (v := k) (by omega) (by omega)
      rw [if_neg (by omega)] at r1
      rw [if_pos (by omega)] at r2
      rw [← hb] at r1 r2
      have l1 := cnt_le (keys b arcs) (k + 1 - 1)
      have l2 := low_le (keys b arcs) k
      rw [keys_len] at l1 l2
      refine rg_still HS 11 (by kernel_rfl) (by kernel_rfl) ?_
      intro W20 H_ HK_
      simp only [List.take_succ_cons, List.take_zero, List.drop_succ_cons, List.drop_zero]
      replace HS : St W (owns []) W20 [row (some ⟨g3, 0, none⟩) (N + 1) (N + 1) (ci .i32 ds) 21 1, blk g1 [.bool b] 4] := H_
      clear H_
      clear HK_
      refine qs (.slice (some ⟨g3, 0, none⟩) (N + 1) (N + 1)) (by kernel_rfl) (by kernel_rfl) ?_
      refine qs (.int .i64 k) (by kernel_rfl) (by kernel_rfl) ?_
      refine qs (.int .i64 (k + 1)) (by kernel_rfl) (R_int (by kernel_rfl) (w64 (by omega))) ?_
      refine qs (.pointer (some ⟨g3, (k + 1).toNat, none⟩)) (by kernel_rfl) (R_index1 (k := .i64) (g := g3) (n := (N + 1)) (c := (N + 1)) (i := k + 1) (by kernel_rfl) (by kernel_rfl) Try.underlying67 (by kernel_rfl) (by omega) (by omega)) ?_
      refine qs (.int .i32 (rdI ds (k + 1))) (by kernel_rfl) (R_load (p := ⟨g3, (k + 1).toNat, none⟩) (by kernel_rfl) (by kernel_rfl) (by kernel_rfl) (HS.rcell (i := 0) rfl (ci_rd (by omega) (by omega)))) ?_
      refine qs (.slice (some ⟨g3, 0, none⟩) (N + 1) (N + 1)) (by kernel_rfl) (by kernel_rfl) ?_
      refine qs (.int .i64 k) (by kernel_rfl) (by kernel_rfl) ?_
      refine qs (.pointer (some ⟨g3, k.toNat, none⟩)) (by kernel_rfl) (R_index1 (k := .i64) (g := g3) (n := (N + 1)) (c := (N + 1)) (i := k) (by kernel_rfl) (by kernel_rfl) Try.underlying67 (by kernel_rfl) (by omega) (by omega)) ?_
      refine qs (.int .i32 (rdI ds k)) (by kernel_rfl) (R_load (p := ⟨g3, k.toNat, none⟩) (by kernel_rfl) (by kernel_rfl) (by kernel_rfl) (HS.rcell (i := 0) rfl (ci_rd (by omega) (by omega)))) ?_
      refine qs (.int .i32 ((rdI ds (k + 1)) + (rdI ds k))) (by kernel_rfl) (R_int (by kernel_rfl) (w32 (by omega))) ?_
      refine qs (.pointer (some ⟨g3, (k + 1).toNat, none⟩)) (by kernel_rfl) (R_index1 (k := .i64) (g := g3) (n := (N + 1)) (c := (N + 1)) (i := k + 1) (by kernel_rfl) (by kernel_rfl) Try.underlying67 (by kernel_rfl) (by omega) (by omega)) ?_
      refine wpStill_nil ?_
      refine kr (v := .int .i32 ((rdI ds (k + 1)) + (rdI ds k))) HS 0 rfl ((k + 1).toNat) [.int .i32 ((rdI ds (k + 1)) + (rdI ds k))] (by kernel_rfl) (by kernel_rfl) (by kernel_rfl) (by kernel_rfl) (by kernel_rfl) (one_ (by kernel_rfl)) (by rw [ci_len]; first | omega | (simp only [List.length_singleton]; omega)) rfl ?_
      intro W21 H_
      obtain ⟨xs22, xs22_⟩ : ∃ z_ : List Int, z_ = (ds).set (k + 1).toNat ((rdI ds (k + 1)) + (rdI ds k)) := ⟨_, rfl⟩
      replace HS : St W (owns []) W21 [row (some ⟨g3, 0, none⟩) (N + 1) (N + 1) (ci .i32 xs22) 21 1, blk g1 [.bool b] 4] := H_.cast_ (by rw [xs22_, ← ci_set]; rfl)
      clear H_
      have xs22l : xs22.length = N + 1 := by rw [xs22_, List.length_set]; first | done | omega
      refine wpList_nil ?_
      refine x_inb ?_
      refine x_then ?_
      refine wp_region_lit ?_
      refine ql (.int .i64 (k + 1)) (by kernel_rfl) (R_int (by kernel_rfl) (w64 (by omega))) ?_
      refine ql (.int .i64 (k + 1)) (by kernel_rfl) (by kernel_rfl) ?_
      refine wpList_nil ?_
      have e_ : xs22 = bm N (keys b arcs) (k + 1).toNat := by rw [xs22_, hb]; exact bm_step (by omega) (by omega)
      refine x_then ?_
      exact ⟨N - (k + 1).toNat, by omega, (fun k_ : Nat => List.getD ((.int .i64 (N : Int)) :: (.slice A arcs.length c) :: (.bool b) :: undef :: undef :: (.pointer (some ⟨g1, 0, none⟩)) :: (.slice none 0 0) :: (.slice none 0 0) :: (.func (.func 63) #[] #[.pointer (some ⟨g1, 0, none⟩)]) :: (.slice (some ⟨g3, 0, none⟩) (N + 1) (N + 1)) :: undef :: ((J5 11)) :: (.int .i64 k) :: undef :: undef :: undef :: undef :: undef :: (.func (.func 63) #[] #[.pointer (some ⟨g1, 0, none⟩)]) :: (.int .i64 (N : Int)) :: (.int .i64 ((N : Int) + 1)) :: (.slice (some ⟨g3, 0, none⟩) (N + 1) (N + 1)) :: (.slice A arcs.length c) :: (.int .i64 (arcs.length : Int)) :: (.int .i64 i) :: (.bool false) :: ((J5 26)) :: ((J5 27)) :: ((J5 28)) :: ((J5 29)) :: ((J5 30)) :: ((J5 31)) :: ((J5 32)) :: ((J5 33)) :: ((J5 34)) :: ((J5 35)) :: ((J5 36)) :: ((J5 37)) :: (.int .i64 (N : Int)) :: (.int .i64 (k + 1)) :: (.bool true) :: (.int .i64 k) :: (.slice (some ⟨g3, 0, none⟩) (N + 1) (N + 1)) :: (.int .i64 k) :: (.int .i64 (k + 1)) :: (.pointer (some ⟨g3, (k + 1).toNat, none⟩)) :: (.int .i32 (rdI ds (k + 1))) :: (.slice (some ⟨g3, 0, none⟩) (N + 1) (N + 1)) :: (.int .i64 k) :: (.pointer (some ⟨g3, k.toNat, none⟩)) :: (.int .i32 (rdI ds k)) :: (.int .i32 ((rdI ds (k + 1)) + (rdI ds k))) :: (.pointer (some ⟨g3, (k + 1).toNat, none⟩)) :: (.int .i64 (k + 1)) :: undef :: undef :: undef :: undef :: undef :: undef :: undef :: undef :: undef :: undef :: undef :: undef :: undef :: undef :: undef :: undef :: undef :: undef :: undef :: undef :: undef :: undef :: undef :: undef :: undef :: undef :: undef :: undef :: undef :: undef :: undef :: undef :: []) k_ undef), k + 1, xs22, congrArg Fr (by kernel_rfl), rfl, by omega, by omega, e_, HS⟩
    · skip
      refine ql (.bool false) (by kernel_rfl) (R_nbool (p := k < (N : Int)) (by kernel_rfl) (hc19)) ?_
      refine wpList_nil ?_
      refine x_then ?_
      refine wp_seq ?_
      refine wp_cond_false (by kernel_rfl) ?_
      refine wp_exit ?_
      refine x_thenE ?_
      refine x_thenE ?_
      refine x_hit ?_
      refine x_then ?_
      refine wp_seq ?_
      have hk2 : k = N := by omega
      have hb3 : ds = bl N (keys b arcs) := by rw [hb, hk2, Int.toNat_natCast, bm_bl]
      subst hb3
      have hbl2 : (bl N (keys b arcs)).length = N + 1 := by simp [bl]
      refine wp_region_lit ?_
      refine ql (.slice (some ⟨g3, 0, none⟩) (N + 1) (N + 1)) (by kernel_rfl) (by kernel_rfl) ?_
      refine ka0 HS (Src.of_row HS (i := 0) rfl ci_one) [.int .i32 0] 4 (by kernel_rfl) (by kernel_rfl) (by kernel_rfl) Try.underlying67 (by kernel_rfl) (by kernel_rfl) (by kernel_rfl) (by kernel_rfl) (by decide) (by omega) (by omega) ?_
      intro A23 c24 W25 H_
      replace HS : St W (owns []) W25 [row A23 (N + 1) c24 (ci .i32 (bl N (keys b arcs))) 21 1, row (some ⟨g3, 0, none⟩) (N + 1) (N + 1) (ci .i32 (bl N (keys b arcs))) 21 1, blk g1 [.bool b] 4] := H_
      clear H_
      refine ql (.slice A23 (N + 1) c24) (by kernel_rfl) (by kernel_rfl) ?_
      refine wpList_nil ?_
      refine x_then ?_
      refine wp_seq ?_
      refine wp_region_lit ?_
      refine ql (.slice A arcs.length c) (by kernel_rfl) (by kernel_rfl) ?_
      refine ql (.int .i64 (arcs.length : Int)) (by kernel_rfl) (by kernel_rfl) ?_
      refine km HS (arcs.length) [.int .i32 0] 4 (by kernel_rfl) (k_eq (k := .i64) (m := (arcs.length : Int)) (by kernel_rfl) (by omega)) (k_eq (k := .i64) (m := (arcs.length : Int)) (by kernel_rfl) (by omega)) Try.underlying67 (by kernel_rfl) (by kernel_rfl) (by kernel_rfl) (by decide) (by omega) (by omega) ?_
      intro g26 W27 H_
      replace HS : St W (owns []) W27 [row (some ⟨g26, 0, none⟩) arcs.length arcs.length (ci .i32 (List.replicate (arcs.length) 0)) 21 1, row A23 (N + 1) c24 (ci .i32 (bl N (keys b arcs))) 21 1, row (some ⟨g3, 0, none⟩) (N + 1) (N + 1) (ci .i32 (bl N (keys b arcs))) 21 1, blk g1 [.bool b] 4] := H_.cast_ (by rw [ci_rep]; rfl)
      clear H_
      have rlg26 : (List.replicate (arcs.length) (0 : Int)).length = arcs.length := List.length_replicate
      refine ql (.slice (some ⟨g26, 0, none⟩) arcs.length arcs.length) (by kernel_rfl) (by kernel_rfl) ?_
      refine wpList_nil ?_
      refine x_then ?_
      refine wp_seq ?_
      refine wp_seq ?_
      have hat_ : bl N (keys b arcs) = ba N (keys b arcs) (0 : Int).toNat := bl_ba
      obtain ⟨gat, rfl⟩ := St.rsome HS (i := 1) rfl (by omega)
      refine wp_region_lit ?_
      refine ql (.slice A arcs.length c) (by kernel_rfl) (by kernel_rfl) ?_
      refine ql (.int .i64 (arcs.length : Int)) (by kernel_rfl) (by kernel_rfl) ?_
      refine ql (.int .i64 0) (by kernel_rfl) (by kernel_rfl) ?_
      refine wpList_nil ?_
      refine x_then ?_
      refine wp_block ?_
      refine wp_loop_ghost (fun kq a' w' => ∃ (J28 : Nat → Value) (p : Int) (os : List Int) (as_ : List Int) , a' = Fr ((.int .i64 (N : Int)) :: (.slice A arcs.length c) :: (.bool b) :: undef :: undef :: (.pointer (some ⟨g1, 0, none⟩)) :: (.slice none 0 0) :: (.slice none 0 0) :: (.func (.func 63) #[] #[.pointer (some ⟨g1, 0, none⟩)]) :: (.slice (some ⟨g3, 0, none⟩) (N + 1) (N + 1)) :: undef :: ((J5 11)) :: ((J16 12)) :: (.slice (some ⟨gat, 0, none⟩) (N + 1) c24) :: (.slice (some ⟨g26, 0, none⟩) arcs.length arcs.length) :: ((J28 15)) :: ((J28 16)) :: ((J28 17)) :: (.func (.func 63) #[] #[.pointer (some ⟨g1, 0, none⟩)]) :: (.int .i64 (N : Int)) :: (.int .i64 ((N : Int) + 1)) :: (.slice (some ⟨g3, 0, none⟩) (N + 1) (N + 1)) :: (.slice A arcs.length c) :: (.int .i64 (arcs.length : Int)) :: (.int .i64 i) :: (.bool false) :: ((J5 26)) :: ((J5 27)) :: ((J5 28)) :: ((J5 29)) :: ((J5 30)) :: ((J5 31)) :: ((J5 32)) :: ((J5 33)) :: ((J5 34)) :: ((J5 35)) :: ((J5 36)) :: ((J5 37)) :: (.int .i64 (N : Int)) :: (.int .i64 k) :: (.bool false) :: ((J16 41)) :: ((J16 42)) :: ((J16 43)) :: ((J16 44)) :: ((J16 45)) :: ((J16 46)) :: ((J16 47)) :: ((J16 48)) :: ((J16 49)) :: ((J16 50)) :: ((J16 51)) :: ((J16 52)) :: ((J16 53)) :: (.slice (some ⟨g3, 0, none⟩) (N + 1) (N + 1)) :: (.slice (some ⟨gat, 0, none⟩) (N + 1) c24) :: (.slice A arcs.length c) :: (.int .i64 (arcs.length : Int)) :: (.slice (some ⟨g26, 0, none⟩) arcs.length arcs.length) :: (.slice A arcs.length c) :: (.int .i64 (arcs.length : Int)) :: (.int .i64 p) :: ((J28 62)) :: ((J28 63)) :: ((J28 64)) :: ((J28 65)) :: ((J28 66)) :: ((J28 67)) :: ((J28 68)) :: ((J28 69)) :: ((J28 70)) :: ((J28 71)) :: ((J28 72)) :: ((J28 73)) :: ((J28 74)) :: ((J28 75)) :: ((J28 76)) :: ((J28 77)) :: ((J28 78)) :: ((J28 79)) :: ((J28 80)) :: ((J28 81)) :: ((J28 82)) :: ((J28 83)) :: undef :: undef :: []) ∧ kq = (arcs.length - (p).toNat) ∧ (0 ≤ p) ∧ (p ≤ arcs.length) ∧ (as_ = ba N (keys b arcs) (p).toNat) ∧ (Laid (keys b arcs) arcs.length (p).toNat os) ∧ St W (owns []) w' [row (some ⟨g26, 0, none⟩) arcs.length arcs.length (ci .i32 os) 21 1, row (some ⟨gat, 0, none⟩) (N + 1) c24 (ci .i32 as_) 21 1, row (some ⟨g3, 0, none⟩) (N + 1) (N + 1) (ci .i32 (bl N (keys b arcs))) 21 1, blk g1 [.bool b] 4]) (arcs.length - ((0 : Int)).toNat) ⟨(fun k_ : Nat => List.getD ((.int .i64 (N : Int)) :: (.slice A arcs.length c) :: (.bool b) :: undef :: undef :: (.pointer (some ⟨g1, 0, none⟩)) :: (.slice none 0 0) :: (.slice none 0 0) :: (.func (.func 63) #[] #[.pointer (some ⟨g1, 0, none⟩)]) :: (.slice (some ⟨g3, 0, none⟩) (N + 1) (N + 1)) :: undef :: ((J5 11)) :: ((J16 12)) :: (.slice (some ⟨gat, 0, none⟩) (N + 1) c24) :: (.slice (some ⟨g26, 0, none⟩) arcs.length arcs.length) :: undef :: undef :: undef :: (.func (.func 63) #[] #[.pointer (some ⟨g1, 0, none⟩)]) :: (.int .i64 (N : Int)) :: (.int .i64 ((N : Int) + 1)) :: (.slice (some ⟨g3, 0, none⟩) (N + 1) (N + 1)) :: (.slice A arcs.length c) :: (.int .i64 (arcs.length : Int)) :: (.int .i64 i) :: (.bool false) :: ((J5 26)) :: ((J5 27)) :: ((J5 28)) :: ((J5 29)) :: ((J5 30)) :: ((J5 31)) :: ((J5 32)) :: ((J5 33)) :: ((J5 34)) :: ((J5 35)) :: ((J5 36)) :: ((J5 37)) :: (.int .i64 (N : Int)) :: (.int .i64 k) :: (.bool false) :: ((J16 41)) :: ((J16 42)) :: ((J16 43)) :: ((J16 44)) :: ((J16 45)) :: ((J16 46)) :: ((J16 47)) :: ((J16 48)) :: ((J16 49)) :: ((J16 50)) :: ((J16 51)) :: ((J16 52)) :: ((J16 53)) :: (.slice (some ⟨g3, 0, none⟩) (N + 1) (N + 1)) :: (.slice (some ⟨gat, 0, none⟩) (N + 1) c24) :: (.slice A arcs.length c) :: (.int .i64 (arcs.length : Int)) :: (.slice (some ⟨g26, 0, none⟩) arcs.length arcs.length) :: (.slice A arcs.length c) :: (.int .i64 (arcs.length : Int)) :: (.int .i64 0) :: undef :: undef :: undef :: undef :: undef :: undef :: undef :: undef :: undef :: undef :: undef :: undef :: undef :: undef :: undef :: undef :: undef :: undef :: undef :: undef :: undef :: undef :: undef :: undef :: []) k_ undef), (0 : Int), List.replicate (arcs.length) 0, bl N (keys b arcs), congrArg Fr (by kernel_rfl), rfl, by omega, by omega, hat_, laid_zero _ _, HS⟩ ?_
      clear HS
      intro kq29 a' W30 hrel
      obtain ⟨J28, p, os, as_, rfl, hk, h0, h1, ha, ho, HS⟩ := hrel
      have hal : as_.length = N + 1 := by rw [ha]; simp [ba]
      refine wp_seq ?_
      refine wp_region_lit ?_
      by_cases hc31 : p < (arcs.length : Int)
      · skip
        refine ql (.bool true) (by kernel_rfl) (R_bool (p := p < (arcs.length : Int)) (by kernel_rfl) (hc31)) ?_
        refine wpList_nil ?_
        refine x_then ?_
        refine wp_seq ?_
        refine wp_cond_true (by kernel_rfl) ?_
        refine wp_skip ?_
        refine x_then ?_
        refine wp_seq ?_
        refine wp_block ?_
        refine wp_seq ?_
        refine wp_region_lit ?_
        refine ql (.int .i64 p) (by kernel_rfl) (by kernel_rfl) ?_
        obtain ⟨ad32, rfl⟩ := Rd.isSome_ hr (by rw [cf_len (z := 2) (fun _ => rfl)]; omega)
        refine ql (.pointer (some (ad32.add (p.toNat * 2)))) (by kernel_rfl) (R_indexA (k := .i64) (p := ad32) (n := arcs.length) (c := c) (i := p) (by kernel_rfl) (by kernel_rfl) Try.underlying65 (by kernel_rfl) (by omega) (by omega)) ?_
        refine ql (.agg #[.int .i64 ((gx arcs p).1), .int .i64 ((gx arcs p).2)]) (by kernel_rfl) (R_loadN (p := ad32.add (p.toNat * 2)) [.int .i64 ((gx arcs p).1), .int .i64 ((gx arcs p).2)] (by kernel_rfl) (by kernel_rfl) (by kernel_rfl) (by kernel_rfl) (HS.oldN (Rd.elem (f := arcC) (fun _ => rfl) hr (gx_eq (by omega) (by omega))))) ?_
        refine kb HS [.int .i64 0, .int .i64 0] 35 (fun g => .pointer (some ⟨g, 0, none⟩)) (by kernel_rfl) (by kernel_rfl) ?_
        intro g33 W34 H_
        replace HS : St W (owns []) W34 [blk g33 [.int .i64 0, .int .i64 0] 35, row (some ⟨g26, 0, none⟩) arcs.length arcs.length (ci .i32 os) 21 1, row (some ⟨gat, 0, none⟩) (N + 1) c24 (ci .i32 as_) 21 1, row (some ⟨g3, 0, none⟩) (N + 1) (N + 1) (ci .i32 (bl N (keys b arcs))) 21 1, blk g1 [.bool b] 4] := H_
        clear H_
        refine ql (.int .i64 p) (by kernel_rfl) (by kernel_rfl) ?_
        refine ks (v := .agg #[.int .i64 ((gx arcs p).1), .int .i64 ((gx arcs p).2)]) HS 0 rfl (0) [.int .i64 ((gx arcs p).1), .int .i64 ((gx arcs p).2)] (by kernel_rfl) (by kernel_rfl) (by kernel_rfl) (by kernel_rfl) (by kernel_rfl) (one_ (by kernel_rfl)) (Nat.le_of_ble_eq_true rfl) rfl ?_
        intro W35 H_
        replace HS : St W (owns []) W35 [blk g33 [.int .i64 ((gx arcs p).1), .int .i64 ((gx arcs p).2)] 35, row (some ⟨g26, 0, none⟩) arcs.length arcs.length (ci .i32 os) 21 1, row (some ⟨gat, 0, none⟩) (N + 1) c24 (ci .i32 as_) 21 1, row (some ⟨g3, 0, none⟩) (N + 1) (N + 1) (ci .i32 (bl N (keys b arcs))) 21 1, blk g1 [.bool b] 4] := H_
        clear H_
        refine wpList_nil ?_
        refine x_then ?_
        refine wp_seq ?_
        have kf := key_fine hF (b := b) h0 hc31
        have kg := keys_get (b := b) h0 hc31
        have r1 := ba_rd (N := N) (ks := keys b arcs) (i := p.toNat) (v := key b (gx arcs p)) kf.1 (by omega)
        rw [← ha] at r1
        have l1 := cnt_lt kg
        have l2 := low_add (keys b arcs) (key b (gx arcs p))
        rw [keys_len] at l2
        have oll := ho.1
        have r3 := Int.natCast_add (low (keys b arcs) (key b (gx arcs p))) (cnt (List.take p.toNat (keys b arcs)) (key b (gx arcs p)))
        refine wp_region_lit ?_
        refine ql (.func (.func 63) #[] #[.pointer (some ⟨g1, 0, none⟩)]) (by kernel_rfl) (by kernel_rfl) ?_
        refine ql (.agg #[.int .i64 ((gx arcs p).1), .int .i64 ((gx arcs p).2)]) (by kernel_rfl) (R_loadN (p := ⟨g33, 0, none⟩) [.int .i64 ((gx arcs p).1), .int .i64 ((gx arcs p).2)] (by kernel_rfl) (by kernel_rfl) (by kernel_rfl) (by kernel_rfl) (two_at (HS.cell (i := 0) (j := 0) rfl rfl) (HS.cell (i := 0) (j := 1) rfl rfl))) ?_
        refine qc (f := 63) (args := #[.agg #[.int .i64 ((gx arcs p).1), .int .i64 ((gx arcs p).2)], .pointer (some ⟨g1, 0, none⟩)]) (by kernel_rfl) (R_callv (caps := #[.pointer (some ⟨g1, 0, none⟩)]) #[.agg #[.int .i64 ((gx arcs p).1), .int .i64 ((gx arcs p).2)], .pointer (some ⟨g1, 0, none⟩)] (by kernel_rfl) Try.func63 (by kernel_rfl) (by kernel_rfl) (by kernel_rfl)) ?_
        refine (node_calls b ((gx arcs p).1) ((gx arcs p).2) g1 _ (HS.cell (i := 4) (j := 0) rfl rfl)).mono ?_
        rintro e W36 ⟨rfl, H_⟩
        refine ⟨_, rfl, ?_⟩
        replace HS : St W (owns []) W36 [blk g33 [.int .i64 ((gx arcs p).1), .int .i64 ((gx arcs p).2)] 35, row (some ⟨g26, 0, none⟩) arcs.length arcs.length (ci .i32 os) 21 1, row (some ⟨gat, 0, none⟩) (N + 1) c24 (ci .i32 as_) 21 1, row (some ⟨g3, 0, none⟩) (N + 1) (N + 1) (ci .i32 (bl N (keys b arcs))) 21 1, blk g1 [.bool b] 4] := HS.join (F := []) (G := []) H_
        clear H_
        refine ql (.int .i64 (key b (gx arcs p))) (by kernel_rfl) (by kernel_rfl) ?_
        refine wpList_nil ?_
        refine x_then ?_
        refine wp_seq ?_
        refine wp_region_lit ?_
        refine ql (.slice (some ⟨g26, 0, none⟩) arcs.length arcs.length) (by kernel_rfl) (by kernel_rfl) ?_
        refine ql (.slice (some ⟨gat, 0, none⟩) (N + 1) c24) (by kernel_rfl) (by kernel_rfl) ?_
        refine ql (.int .i64 (key b (gx arcs p))) (by kernel_rfl) (by kernel_rfl) ?_
        refine ql (.pointer (some ⟨gat, (key b (gx arcs p)).toNat, none⟩)) (by kernel_rfl) (R_index1 (k := .i64) (g := gat) (n := (N + 1)) (c := c24) (i := key b (gx arcs p)) (by kernel_rfl) (by kernel_rfl) Try.underlying67 (by kernel_rfl) (by omega) (by omega)) ?_
        refine ql (.int .i32 (rdI as_ (key b (gx arcs p)))) (by kernel_rfl) (R_load (p := ⟨gat, (key b (gx arcs p)).toNat, none⟩) (by kernel_rfl) (by kernel_rfl) (by kernel_rfl) (HS.rcell (i := 2) rfl (ci_rd (by omega) (by omega)))) ?_
        refine ql (.int .i64 p) (by kernel_rfl) (by kernel_rfl) ?_
        refine ql (.int .i32 p) (by kernel_rfl) (R_int (by kernel_rfl) (w32 (by omega))) ?_
        refine ql (.pointer (some ⟨g26, (rdI as_ (key b (gx arcs p))).toNat, none⟩)) (by kernel_rfl) (R_index1 (k := .i32) (g := g26) (n := arcs.length) (c := arcs.length) (i := rdI as_ (key b (gx arcs p))) (by kernel_rfl) (by kernel_rfl) Try.underlying67 (by kernel_rfl) (by omega) (by omega)) ?_
        refine kr (v := .int .i32 p) HS 1 rfl ((rdI as_ (key b (gx arcs p))).toNat) [.int .i32 p] (by kernel_rfl) (by kernel_rfl) (by kernel_rfl) (by kernel_rfl) (by kernel_rfl) (one_ (by kernel_rfl)) (by rw [ci_len]; first | omega | (simp only [List.length_singleton]; omega)) rfl ?_
        intro W37 H_
        obtain ⟨xs38, xs38_⟩ : ∃ z_ : List Int, z_ = (os).set (rdI as_ (key b (gx arcs p))).toNat p := ⟨_, rfl⟩
        replace HS : St W (owns []) W37 [blk g33 [.int .i64 ((gx arcs p).1), .int .i64 ((gx arcs p).2)] 35, row (some ⟨g26, 0, none⟩) arcs.length arcs.length (ci .i32 xs38) 21 1, row (some ⟨gat, 0, none⟩) (N + 1) c24 (ci .i32 as_) 21 1, row (some ⟨g3, 0, none⟩) (N + 1) (N + 1) (ci .i32 (bl N (keys b arcs))) 21 1, blk g1 [.bool b] 4] := H_.cast_ (by rw [xs38_, ← ci_set]; rfl)
        clear H_
        have xs38l : xs38.length = arcs.length := by rw [xs38_, List.length_set]; first | done | omega
        refine wpList_nil ?_
        refine x_then ?_
        refine wp_region_lit ?_
        refine ql (.slice (some ⟨gat, 0, none⟩) (N + 1) c24) (by kernel_rfl) (by kernel_rfl) ?_
        refine ql (.int .i64 (key b (gx arcs p))) (by kernel_rfl) (by kernel_rfl) ?_
        refine ql (.pointer (some ⟨gat, (key b (gx arcs p)).toNat, none⟩)) (by kernel_rfl) (R_index1 (k := .i64) (g := gat) (n := (N + 1)) (c := c24) (i := key b (gx arcs p)) (by kernel_rfl) (by kernel_rfl) Try.underlying67 (by kernel_rfl) (by omega) (by omega)) ?_
        refine ql (.int .i32 (rdI as_ (key b (gx arcs p)))) (by kernel_rfl) (R_load (p := ⟨gat, (key b (gx arcs p)).toNat, none⟩) (by kernel_rfl) (by kernel_rfl) (by kernel_rfl) (HS.rcell (i := 2) rfl (ci_rd (by omega) (by omega)))) ?_
        refine ql (.int .i32 ((rdI as_ (key b (gx arcs p))) + 1)) (by kernel_rfl) (R_int (by kernel_rfl) (w32 (by omega))) ?_
        refine ql (.pointer (some ⟨gat, (key b (gx arcs p)).toNat, none⟩)) (by kernel_rfl) (R_index1 (k := .i64) (g := gat) (n := (N + 1)) (c := c24) (i := key b (gx arcs p)) (by kernel_rfl) (by kernel_rfl) Try.underlying67 (by kernel_rfl) (by omega) (by omega)) ?_
        refine kr (v := .int .i32 ((rdI as_ (key b (gx arcs p))) + 1)) HS 2 rfl ((key b (gx arcs p)).toNat) [.int .i32 ((rdI as_ (key b (gx arcs p))) + 1)] (by kernel_rfl) (by kernel_rfl) (by kernel_rfl) (by kernel_rfl) (by kernel_rfl) (one_ (by kernel_rfl)) (by rw [ci_len]; first | omega | (simp only [List.length_singleton]; omega)) rfl ?_
        intro W39 H_
        obtain ⟨xs40, xs40_⟩ : ∃ z_ : List Int, z_ = (as_).set (key b (gx arcs p)).toNat ((rdI as_ (key b (gx arcs p))) + 1) := ⟨_, rfl⟩
        replace HS : St W (owns []) W39 [blk g33 [.int .i64 ((gx arcs p).1), .int .i64 ((gx arcs p).2)] 35, row (some ⟨g26, 0, none⟩) arcs.length arcs.length (ci .i32 xs38) 21 1, row (some ⟨gat, 0, none⟩) (N + 1) c24 (ci .i32 xs40) 21 1, row (some ⟨g3, 0, none⟩) (N + 1) (N + 1) (ci .i32 (bl N (keys b arcs))) 21 1, blk g1 [.bool b] 4] := H_.cast_ (by rw [xs40_, ← ci_set]; rfl)
        clear H_
        have xs40l : xs40.length = N + 1 := by rw [xs40_, List.length_set]; first | done | omega
        refine wpList_nil ?_
        refine x_inb ?_
        refine x_then ?_
        refine wp_region_lit ?_
        refine ql (.int .i64 (p + 1)) (by kernel_rfl) (R_int (by kernel_rfl) (w64 (by omega))) ?_
        refine ql (.int .i64 (p + 1)) (by kernel_rfl) (by kernel_rfl) ?_
        refine wpList_nil ?_
        replace HS := HS.drop1
        have e1 : xs40 = ba N (keys b arcs) (p + 1).toNat := by rw [xs40_, ha, show (p + 1).toNat = p.toNat + 1 by omega]; exact ba_step kg kf.1 kf.2
        have e2 : Laid (keys b arcs) arcs.length (p + 1).toNat xs38 := laid_next ho (keys_len b arcs) hm h0 kg r1 xs38_
        refine x_then ?_
        exact ⟨arcs.length - (p + 1).toNat, by omega, (fun k_ : Nat => List.getD ((.int .i64 (N : Int)) :: (.slice (some ad32) arcs.length c) :: (.bool b) :: undef :: undef :: (.pointer (some ⟨g1, 0, none⟩)) :: (.slice none 0 0) :: (.slice none 0 0) :: (.func (.func 63) #[] #[.pointer (some ⟨g1, 0, none⟩)]) :: (.slice (some ⟨g3, 0, none⟩) (N + 1) (N + 1)) :: undef :: ((J5 11)) :: ((J16 12)) :: (.slice (some ⟨gat, 0, none⟩) (N + 1) c24) :: (.slice (some ⟨g26, 0, none⟩) arcs.length arcs.length) :: (.int .i64 p) :: (.pointer (some ⟨g33, 0, none⟩)) :: (.int .i64 (key b (gx arcs p))) :: (.func (.func 63) #[] #[.pointer (some ⟨g1, 0, none⟩)]) :: (.int .i64 (N : Int)) :: (.int .i64 ((N : Int) + 1)) :: (.slice (some ⟨g3, 0, none⟩) (N + 1) (N + 1)) :: (.slice (some ad32) arcs.length c) :: (.int .i64 (arcs.length : Int)) :: (.int .i64 i) :: (.bool false) :: ((J5 26)) :: ((J5 27)) :: ((J5 28)) :: ((J5 29)) :: ((J5 30)) :: ((J5 31)) :: ((J5 32)) :: ((J5 33)) :: ((J5 34)) :: ((J5 35)) :: ((J5 36)) :: ((J5 37)) :: (.int .i64 (N : Int)) :: (.int .i64 k) :: (.bool false) :: ((J16 41)) :: ((J16 42)) :: ((J16 43)) :: ((J16 44)) :: ((J16 45)) :: ((J16 46)) :: ((J16 47)) :: ((J16 48)) :: ((J16 49)) :: ((J16 50)) :: ((J16 51)) :: ((J16 52)) :: ((J16 53)) :: (.slice (some ⟨g3, 0, none⟩) (N + 1) (N + 1)) :: (.slice (some ⟨gat, 0, none⟩) (N + 1) c24) :: (.slice (some ad32) arcs.length c) :: (.int .i64 (arcs.length : Int)) :: (.slice (some ⟨g26, 0, none⟩) arcs.length arcs.length) :: (.slice (some ad32) arcs.length c) :: (.int .i64 (arcs.length : Int)) :: (.int .i64 (p + 1)) :: (.bool true) :: (.int .i64 p) :: (.pointer (some (ad32.add (p.toNat * 2)))) :: (.agg #[.int .i64 ((gx arcs p).1), .int .i64 ((gx arcs p).2)]) :: (.func (.func 63) #[] #[.pointer (some ⟨g1, 0, none⟩)]) :: (.agg #[.int .i64 ((gx arcs p).1), .int .i64 ((gx arcs p).2)]) :: (.int .i64 (key b (gx arcs p))) :: (.slice (some ⟨g26, 0, none⟩) arcs.length arcs.length) :: (.slice (some ⟨gat, 0, none⟩) (N + 1) c24) :: (.int .i64 (key b (gx arcs p))) :: (.pointer (some ⟨gat, (key b (gx arcs p)).toNat, none⟩)) :: (.int .i32 (rdI as_ (key b (gx arcs p)))) :: (.int .i64 p) :: (.int .i32 p) :: (.pointer (some ⟨g26, (rdI as_ (key b (gx arcs p))).toNat, none⟩)) :: (.slice (some ⟨gat, 0, none⟩) (N + 1) c24) :: (.int .i64 (key b (gx arcs p))) :: (.pointer (some ⟨gat, (key b (gx arcs p)).toNat, none⟩)) :: (.int .i32 (rdI as_ (key b (gx arcs p)))) :: (.int .i32 ((rdI as_ (key b (gx arcs p))) + 1)) :: (.pointer (some ⟨gat, (key b (gx arcs p)).toNat, none⟩)) :: (.int .i64 (p + 1)) :: undef :: undef :: []) k_ undef), p + 1, xs38, xs40, congrArg Fr (by kernel_rfl), rfl, by omega, by omega, e1, e2, HS⟩
      · skip
        refine ql (.bool false) (by kernel_rfl) (R_nbool (p := p < (arcs.length : Int)) (by kernel_rfl) (hc31)) ?_
        refine wpList_nil ?_
        refine x_then ?_
        refine wp_seq ?_
        refine wp_cond_false (by kernel_rfl) ?_
        refine wp_exit ?_
        refine x_thenE ?_
        refine x_thenE ?_
        refine x_hit ?_
        refine x_then ?_
        refine wp_seq ?_
        refine wp_region_lit ?_
        refine ql (.slice (some ⟨g26, 0, none⟩) arcs.length arcs.length) (by kernel_rfl) (by kernel_rfl) ?_
        refine ql (.slice (some ⟨g3, 0, none⟩) (N + 1) (N + 1)) (by kernel_rfl) (by kernel_rfl) ?_
        refine ql (.slice (some ⟨g26, 0, none⟩) arcs.length arcs.length) (by kernel_rfl) (by kernel_rfl) ?_
        refine ql (.slice (some ⟨g3, 0, none⟩) (N + 1) (N + 1)) (by kernel_rfl) (by kernel_rfl) ?_
        refine wpList_nil ?_
        refine x_then ?_
        refine wp_ret ?_
        refine ret_ (.tuple #[.slice (some ⟨g26, 0, none⟩) arcs.length arcs.length, .slice (some ⟨g3, 0, none⟩) (N + 1) (N + 1)]) (by kernel_rfl) ?_
        replace HS : St W (owns []) W30 [row (some ⟨g26, 0, none⟩) arcs.length arcs.length (ci .i32 os) 21 1, row (some ⟨g3, 0, none⟩) (N + 1) (N + 1) (ci .i32 (bl N (keys b arcs))) 21 1] := St.tail (F := [row (some ⟨gat, 0, none⟩) (N + 1) c24 (ci .i32 as_) 21 1, blk g1 [.bool b] 4]) (HS.perm (perm_ [1, 3, 0, 2] (by kernel_rfl) rfl))
        have ho2 : Laid (keys b arcs) arcs.length (keys b arcs).length os := by rw [keys_len]; rwa [show p.toNat = arcs.length by omega] at ho
        exact ⟨_, _, _, _, os, rfl, HS, ho2⟩

/-- A graph in memory. -/
def GAt (W : World) (g N : Nat) (arcs : List (Int × Int)) : Prop := ∃ A1 c1 A2 c2 A3 c3 A4 c4 A5 c5 os js,
  W.heap[g]? = some (.cells #[.int .i64 (N : Int), .slice A1 arcs.length c1, .slice A2 arcs.length c2, .slice A3 arcs.length c3, .slice A4 (N + 1) c4, .slice A5 (N + 1) c5] 69 (0, 0)) ∧
  Rd W A1 (cf arcC arcs) ∧ Rd W A2 (ci .i32 os) ∧ Rd W A3 (ci .i32 js) ∧ Rd W A4 (ci .i32 (bl N (keys false arcs))) ∧ Rd W A5 (ci .i32 (bl N (keys true arcs))) ∧
  Laid (keys false arcs) arcs.length (keys false arcs).length os ∧ Laid (keys true arcs) arcs.length (keys true arcs).length js ∧ Fine N arcs ∧ N ≤ 1048576 ∧ arcs.length ≤ 67108864 ∧ arcs.length ≤ c2 ∧ arcs.length ≤ c3 ∧ N + 1 ≤ c4 ∧ N + 1 ≤ c5
theorem GAt.below {W W' : World} {g N : Nat} {arcs : List (Int × Int)} (h : GAt W g N arcs) (hb : Below W.heap.size W W') : GAt W' g N arcs := by
  obtain ⟨A1, c1, A2, c2, A3, c3, A4, c4, A5, c5, os, js, hB, h1, h2, h3, h4, h5, rest⟩ := h
  exact ⟨A1, c1, A2, c2, A3, c3, A4, c4, A5, c5, os, js, (hb.block g (Array.getElem?_eq_some_iff.1 hB).1).trans hB, h1.below hb, h2.below hb, h3.below hb, h4.below hb, h5.below hb, rest⟩

set_option maxRecDepth 100000 in
set_option maxHeartbeats 1000000 in
theorem nodesnil (W : World) : Calls Try.prog 17 #[.pointer none] W fun e W' => e = .returned (.int .i64 0) ∧ St W (owns []) W' [] := by
  have HS : St W (owns []) W [] := St.start W _
  refine calls_enter [.pointer none, undef, undef, undef, undef, undef, undef, undef, undef] Try.func17 rfl (by kernel_rfl) ?_
  refine wp_seq ?_
  refine wp_region_lit ?_
  refine ql (.int .i64 0) (by kernel_rfl) (by kernel_rfl) ?_
  refine wpList_nil ?_
  refine x_then ?_
  refine wp_seq ?_
  refine wp_seq ?_
  refine wp_region_lit ?_
  refine ql (.pointer none) (by kernel_rfl) (by kernel_rfl) ?_
  refine ql (.bool true) (by kernel_rfl) (by kernel_rfl) ?_
  refine wpList_nil ?_
  refine x_then ?_
  refine wp_cond_true (by kernel_rfl) ?_
  refine wp_seq ?_
  refine wp_region_lit ?_
  refine ql (.int .i64 0) (by kernel_rfl) (by kernel_rfl) ?_
  refine wpList_nil ?_
  refine x_then ?_
  refine wp_ret ?_
  refine x_thenR ?_
  refine ret_ (.int .i64 0) (by kernel_rfl) ?_
  exact ⟨rfl, HS⟩

set_option maxRecDepth 100000 in
set_option maxHeartbeats 1000000 in
theorem nodessome (g N : Nat) (arcs : List (Int × Int)) (W : World) (hG : GAt W g N arcs) : Calls Try.prog 17 #[.pointer (some ⟨g, 0, none⟩)] W fun e W' => e = .returned (.int .i64 (N : Int)) ∧ St W (owns []) W' [] := by
  have HS : St W (owns []) W [] := St.start W _
  obtain ⟨A1, c1, A2, c2, A3, c3, A4, c4, A5, c5, os, js, hB, r1, r2, r3, r4, r5, l1, l2, hF, hN, hm, k2, k3, k4, k5⟩ := hG
  have b1 := bl_len N (keys false arcs)
  have b2 := bl_len N (keys true arcs)
  refine calls_enter [.pointer (some ⟨g, 0, none⟩), undef, undef, undef, undef, undef, undef, undef, undef] Try.func17 rfl (by kernel_rfl) ?_
  refine wp_seq ?_
  refine wp_region_lit ?_
  refine ql (.int .i64 0) (by kernel_rfl) (by kernel_rfl) ?_
  refine wpList_nil ?_
  refine x_then ?_
  refine wp_seq ?_
  refine wp_seq ?_
  refine wp_region_lit ?_
  refine ql (.pointer (some ⟨g, 0, none⟩)) (by kernel_rfl) (by kernel_rfl) ?_
  refine ql (.bool false) (by kernel_rfl) (by kernel_rfl) ?_
  refine wpList_nil ?_
  refine x_then ?_
  refine wp_cond_false (by kernel_rfl) ?_
  refine wp_skip ?_
  refine x_then ?_
  refine wp_seq ?_
  refine wp_region_lit ?_
  refine ql (.pointer (some ⟨g, 0, none⟩)) (by kernel_rfl) (by kernel_rfl) ?_
  refine ql (.pointer (some ⟨g, 0, none⟩)) (by kernel_rfl) (by kernel_rfl) ?_
  refine ql (.pointer (some ⟨g, 0, none⟩)) (by kernel_rfl) (by kernel_rfl) ?_
  refine ql (.int .i64 (N : Int)) (by kernel_rfl) (R_load (p := ⟨g, 0, none⟩) (by kernel_rfl) (by kernel_rfl) (by kernel_rfl) (HS.old0 (cell_at (j := 0) hB rfl))) ?_
  refine ql (.int .i64 (N : Int)) (by kernel_rfl) (by kernel_rfl) ?_
  refine wpList_nil ?_
  refine x_then ?_
  refine wp_ret ?_
  refine ret_ (.int .i64 (N : Int)) (by kernel_rfl) ?_
  exact ⟨rfl, HS⟩

set_option maxRecDepth 100000 in
set_option maxHeartbeats 1000000 in
theorem arcs_nil (W : World) : Calls Try.prog 18 #[.pointer none] W fun e W' => e = .returned (.int .i64 0) ∧ St W (owns []) W' [] := by
  have HS : St W (owns []) W [] := St.start W _
  refine calls_enter [.pointer none, undef, undef, undef, undef, undef, undef, undef, undef, undef] Try.func18 rfl (by kernel_rfl) ?_
  refine wp_seq ?_
  refine wp_region_lit ?_
  refine ql (.int .i64 0) (by kernel_rfl) (by kernel_rfl) ?_
  refine wpList_nil ?_
  refine x_then ?_
  refine wp_seq ?_
  refine wp_seq ?_
  refine wp_region_lit ?_
  refine ql (.pointer none) (by kernel_rfl) (by kernel_rfl) ?_
  refine ql (.bool true) (by kernel_rfl) (by kernel_rfl) ?_
  refine wpList_nil ?_
  refine x_then ?_
  refine wp_cond_true (by kernel_rfl) ?_
  refine wp_seq ?_
  refine wp_region_lit ?_
  refine ql (.int .i64 0) (by kernel_rfl) (by kernel_rfl) ?_
  refine wpList_nil ?_
  refine x_then ?_
  refine wp_ret ?_
  refine x_thenR ?_
  refine ret_ (.int .i64 0) (by kernel_rfl) ?_
  exact ⟨rfl, HS⟩

set_option maxRecDepth 100000 in
set_option maxHeartbeats 1000000 in
theorem arcs_some (g N : Nat) (arcs : List (Int × Int)) (W : World) (hG : GAt W g N arcs) : Calls Try.prog 18 #[.pointer (some ⟨g, 0, none⟩)] W fun e W' => e = .returned (.int .i64 (arcs.length : Int)) ∧ St W (owns []) W' [] := by
  have HS : St W (owns []) W [] := St.start W _
  obtain ⟨A1, c1, A2, c2, A3, c3, A4, c4, A5, c5, os, js, hB, r1, r2, r3, r4, r5, l1, l2, hF, hN, hm, k2, k3, k4, k5⟩ := hG
  have b1 := bl_len N (keys false arcs)
  have b2 := bl_len N (keys true arcs)
  refine calls_enter [.pointer (some ⟨g, 0, none⟩), undef, undef, undef, undef, undef, undef, undef, undef, undef] Try.func18 rfl (by kernel_rfl) ?_
  refine wp_seq ?_
  refine wp_region_lit ?_
  refine ql (.int .i64 0) (by kernel_rfl) (by kernel_rfl) ?_
  refine wpList_nil ?_
  refine x_then ?_
  refine wp_seq ?_
  refine wp_seq ?_
  refine wp_region_lit ?_
  refine ql (.pointer (some ⟨g, 0, none⟩)) (by kernel_rfl) (by kernel_rfl) ?_
  refine ql (.bool false) (by kernel_rfl) (by kernel_rfl) ?_
  refine wpList_nil ?_
  refine x_then ?_
  refine wp_cond_false (by kernel_rfl) ?_
  refine wp_skip ?_
  refine x_then ?_
  refine wp_seq ?_
  refine wp_region_lit ?_
  refine ql (.pointer (some ⟨g, 0, none⟩)) (by kernel_rfl) (by kernel_rfl) ?_
  refine ql (.pointer (some ⟨g, 0, none⟩)) (by kernel_rfl) (by kernel_rfl) ?_
  refine ql (.pointer (some ⟨g, 1, none⟩)) (by kernel_rfl) (by kernel_rfl) ?_
  refine ql (.slice A1 arcs.length c1) (by kernel_rfl) (R_load (p := ⟨g, 1, none⟩) (by kernel_rfl) (by kernel_rfl) (by kernel_rfl) (HS.old0 (cell_at (j := 1) hB rfl))) ?_
  refine ql (.int .i64 (arcs.length : Int)) (by kernel_rfl) (by kernel_rfl) ?_
  refine ql (.int .i64 (arcs.length : Int)) (by kernel_rfl) (by kernel_rfl) ?_
  refine wpList_nil ?_
  refine x_then ?_
  refine wp_ret ?_
  refine ret_ (.int .i64 (arcs.length : Int)) (by kernel_rfl) ?_
  exact ⟨rfl, HS⟩

set_option maxRecDepth 100000 in
set_option maxHeartbeats 1000000 in
theorem arc_nil (W : World) (i : Int) : Calls Try.prog 22 #[.pointer none, .int .i64 i] W fun e W' => e = .returned (.tuple #[.agg #[.int .i64 0, .int .i64 0], .bool false]) ∧ St W (owns []) W' [] := by
  have HS : St W (owns []) W [] := St.start W _
  refine calls_enter [.pointer none, .int .i64 i, undef, undef, undef, undef, undef, undef, undef, undef, undef, undef, undef, undef, undef, undef, undef, undef, undef, undef, undef, undef] Try.func22 rfl (by kernel_rfl) ?_
  refine wp_seq ?_
  refine wp_region_lit ?_
  refine kb HS [.int .i64 0, .int .i64 0] 35 (fun g => .pointer (some ⟨g, 0, none⟩)) (by kernel_rfl) (by kernel_rfl) ?_
  intro g1 W2 H_
  replace HS : St W (owns []) W2 [blk g1 [.int .i64 0, .int .i64 0] 35] := H_
  clear H_
  refine ql (.bool false) (by kernel_rfl) (by kernel_rfl) ?_
  refine wpList_nil ?_
  refine x_then ?_
  refine wp_seq ?_
  refine wp_seq ?_
  refine wp_region_lit ?_
  refine ql (.int .i64 i) (by kernel_rfl) (by kernel_rfl) ?_
  by_cases hc3 : i < (0 : Int)
  · skip
    refine ql (.bool true) (by kernel_rfl) (R_bool (p := i < (0 : Int)) (by kernel_rfl) (hc3)) ?_
    refine ql (.bool true) (by kernel_rfl) (by kernel_rfl) ?_
    refine qln (by kernel_rfl) ?_
    refine qln (by kernel_rfl) ?_
    refine qln (by kernel_rfl) ?_
    refine qln (by kernel_rfl) ?_
    refine ql (.bool true) (by kernel_rfl) (by kernel_rfl) ?_
    refine wpList_nil ?_
    refine x_then ?_
    refine wp_cond_true (by kernel_rfl) ?_
    refine wp_seq ?_
    refine wp_region_lit ?_
    refine ql (.agg #[.int .i64 0, .int .i64 0]) (by kernel_rfl) (by kernel_rfl) ?_
    refine ks (v := .agg #[.int .i64 0, .int .i64 0]) HS 0 rfl (0) [.int .i64 0, .int .i64 0] (by kernel_rfl) (by kernel_rfl) (by kernel_rfl) (by kernel_rfl) (by kernel_rfl) (one_ (by kernel_rfl)) (Nat.le_of_ble_eq_true rfl) rfl ?_
    intro W4 H_
    replace HS : St W (owns []) W4 [blk g1 [.int .i64 0, .int .i64 0] 35] := H_
    clear H_
    refine ql (.bool false) (by kernel_rfl) (by kernel_rfl) ?_
    refine wpList_nil ?_
    refine x_then ?_
    refine wp_ret ?_
    refine x_thenR ?_
    refine ret_ (.tuple #[.agg #[.int .i64 0, .int .i64 0], .bool false]) (res2 rfl (oneRes_agg (p := ⟨g1, 0, none⟩) [.int .i64 0, .int .i64 0] (by kernel_rfl) (by kernel_rfl) (by kernel_rfl) (by kernel_rfl) (HS.cellsN (i := 0) rfl)) (oneRes_t (by kernel_rfl))) ?_
    exact ⟨rfl, HS.tail (F := [blk g1 [.int .i64 0, .int .i64 0] 35])⟩
  · skip
    refine ql (.bool false) (by kernel_rfl) (R_nbool (p := i < (0 : Int)) (by kernel_rfl) (hc3)) ?_
    refine ql (.bool false) (by kernel_rfl) (by kernel_rfl) ?_
    refine ql (.int .i64 i) (by kernel_rfl) (by kernel_rfl) ?_
    refine ql (.pointer none) (by kernel_rfl) (by kernel_rfl) ?_
    refine qc (f := 18) (args := #[.pointer none]) (by kernel_rfl) (R_call #[.pointer none] Try.func18 (by kernel_rfl) (by kernel_rfl) (by kernel_rfl)) ?_
    refine (arcs_nil _).mono ?_
    rintro e W5 ⟨rfl, H_⟩
    refine ⟨_, rfl, ?_⟩
    replace HS : St W (owns []) W5 [blk g1 [.int .i64 0, .int .i64 0] 35] := HS.join (F := []) (G := []) H_
    clear H_
    refine ql (.bool true) (by kernel_rfl) (R_bool (p := i ≥ (0 : Int)) (by kernel_rfl) (by omega)) ?_
    refine ql (.bool true) (by kernel_rfl) (by kernel_rfl) ?_
    refine wpList_nil ?_
    refine x_then ?_
    refine wp_cond_true (by kernel_rfl) ?_
    refine wp_seq ?_
    refine wp_region_lit ?_
    refine ql (.agg #[.int .i64 0, .int .i64 0]) (by kernel_rfl) (by kernel_rfl) ?_
    refine ks (v := .agg #[.int .i64 0, .int .i64 0]) HS 0 rfl (0) [.int .i64 0, .int .i64 0] (by kernel_rfl) (by kernel_rfl) (by kernel_rfl) (by kernel_rfl) (by kernel_rfl) (one_ (by kernel_rfl)) (Nat.le_of_ble_eq_true rfl) rfl ?_
    intro W6 H_
    replace HS : St W (owns []) W6 [blk g1 [.int .i64 0, .int .i64 0] 35] := H_
    clear H_
    refine ql (.bool false) (by kernel_rfl) (by kernel_rfl) ?_
    refine wpList_nil ?_
    refine x_then ?_
    refine wp_ret ?_
    refine x_thenR ?_
    refine ret_ (.tuple #[.agg #[.int .i64 0, .int .i64 0], .bool false]) (res2 rfl (oneRes_agg (p := ⟨g1, 0, none⟩) [.int .i64 0, .int .i64 0] (by kernel_rfl) (by kernel_rfl) (by kernel_rfl) (by kernel_rfl) (HS.cellsN (i := 0) rfl)) (oneRes_t (by kernel_rfl))) ?_
    exact ⟨rfl, HS.tail (F := [blk g1 [.int .i64 0, .int .i64 0] 35])⟩

set_option maxRecDepth 100000 in
set_option maxHeartbeats 1000000 in
theorem arc_some (g N : Nat) (arcs : List (Int × Int)) (W : World) (hG : GAt W g N arcs) (i : Int) : Calls Try.prog 22 #[.pointer (some ⟨g, 0, none⟩), .int .i64 i] W fun e W' => (0 ≤ i ∧ i < arcs.length ∧ e = .returned (.tuple #[.agg #[.int .i64 (gx arcs i).1, .int .i64 (gx arcs i).2], .bool true]) ∧ St W (owns []) W' []) ∨ (¬ (0 ≤ i ∧ i < arcs.length) ∧ e = .returned (.tuple #[.agg #[.int .i64 0, .int .i64 0], .bool false]) ∧ St W (owns []) W' []) := by
  have HS : St W (owns []) W [] := St.start W _
  have hG_ := hG
  obtain ⟨A1, c1, A2, c2, A3, c3, A4, c4, A5, c5, os, js, hB, r1, r2, r3, r4, r5, l1, l2, hF, hN, hm, k2, k3, k4, k5⟩ := hG_
  refine calls_enter [.pointer (some ⟨g, 0, none⟩), .int .i64 i, undef, undef, undef, undef, undef, undef, undef, undef, undef, undef, undef, undef, undef, undef, undef, undef, undef, undef, undef, undef] Try.func22 rfl (by kernel_rfl) ?_
  refine wp_seq ?_
  refine wp_region_lit ?_
  refine kb HS [.int .i64 0, .int .i64 0] 35 (fun g => .pointer (some ⟨g, 0, none⟩)) (by kernel_rfl) (by kernel_rfl) ?_
  intro g1 W2 H_
  replace HS : St W (owns []) W2 [blk g1 [.int .i64 0, .int .i64 0] 35] := H_
  clear H_
  refine ql (.bool false) (by kernel_rfl) (by kernel_rfl) ?_
  refine wpList_nil ?_
  refine x_then ?_
  refine wp_seq ?_
  refine wp_seq ?_
  refine wp_region_lit ?_
  refine ql (.int .i64 i) (by kernel_rfl) (by kernel_rfl) ?_
  by_cases hc3 : i < (0 : Int)
  · skip
    refine ql (.bool true) (by kernel_rfl) (R_bool (p := i < (0 : Int)) (by kernel_rfl) (hc3)) ?_
    refine ql (.bool true) (by kernel_rfl) (by kernel_rfl) ?_
    refine qln (by kernel_rfl) ?_
    refine qln (by kernel_rfl) ?_
    refine qln (by kernel_rfl) ?_
    refine qln (by kernel_rfl) ?_
    refine ql (.bool true) (by kernel_rfl) (by kernel_rfl) ?_
    refine wpList_nil ?_
    refine x_then ?_
    refine wp_cond_true (by kernel_rfl) ?_
    refine wp_seq ?_
    refine wp_region_lit ?_
    refine ql (.agg #[.int .i64 0, .int .i64 0]) (by kernel_rfl) (by kernel_rfl) ?_
    refine ks (v := .agg #[.int .i64 0, .int .i64 0]) HS 0 rfl (0) [.int .i64 0, .int .i64 0] (by kernel_rfl) (by kernel_rfl) (by kernel_rfl) (by kernel_rfl) (by kernel_rfl) (one_ (by kernel_rfl)) (Nat.le_of_ble_eq_true rfl) rfl ?_
    intro W4 H_
    replace HS : St W (owns []) W4 [blk g1 [.int .i64 0, .int .i64 0] 35] := H_
    clear H_
    refine ql (.bool false) (by kernel_rfl) (by kernel_rfl) ?_
    refine wpList_nil ?_
    refine x_then ?_
    refine wp_ret ?_
    refine x_thenR ?_
    refine ret_ (.tuple #[.agg #[.int .i64 0, .int .i64 0], .bool false]) (res2 rfl (oneRes_agg (p := ⟨g1, 0, none⟩) [.int .i64 0, .int .i64 0] (by kernel_rfl) (by kernel_rfl) (by kernel_rfl) (by kernel_rfl) (HS.cellsN (i := 0) rfl)) (oneRes_t (by kernel_rfl))) ?_
    exact .inr ⟨by omega, rfl, HS.tail (F := [blk g1 [.int .i64 0, .int .i64 0] 35])⟩
  · skip
    refine ql (.bool false) (by kernel_rfl) (R_nbool (p := i < (0 : Int)) (by kernel_rfl) (hc3)) ?_
    refine ql (.bool false) (by kernel_rfl) (by kernel_rfl) ?_
    refine ql (.int .i64 i) (by kernel_rfl) (by kernel_rfl) ?_
    refine ql (.pointer (some ⟨g, 0, none⟩)) (by kernel_rfl) (by kernel_rfl) ?_
    refine qc (f := 18) (args := #[.pointer (some ⟨g, 0, none⟩)]) (by kernel_rfl) (R_call #[.pointer (some ⟨g, 0, none⟩)] Try.func18 (by kernel_rfl) (by kernel_rfl) (by kernel_rfl)) ?_
    refine (arcs_some g N arcs _ (hG.below (HS.kept.below owns_nil))).mono ?_
    rintro e W5 ⟨rfl, H_⟩
    refine ⟨_, rfl, ?_⟩
    replace HS : St W (owns []) W5 [blk g1 [.int .i64 0, .int .i64 0] 35] := HS.join (F := []) (G := []) H_
    clear H_
    by_cases hc6 : i ≥ (arcs.length : Int)
    · skip
      refine ql (.bool true) (by kernel_rfl) (R_bool (p := i ≥ (arcs.length : Int)) (by kernel_rfl) (hc6)) ?_
      refine ql (.bool true) (by kernel_rfl) (by kernel_rfl) ?_
      refine wpList_nil ?_
      refine x_then ?_
      refine wp_cond_true (by kernel_rfl) ?_
      refine wp_seq ?_
      refine wp_region_lit ?_
      refine ql (.agg #[.int .i64 0, .int .i64 0]) (by kernel_rfl) (by kernel_rfl) ?_
      refine ks (v := .agg #[.int .i64 0, .int .i64 0]) HS 0 rfl (0) [.int .i64 0, .int .i64 0] (by kernel_rfl) (by kernel_rfl) (by kernel_rfl) (by kernel_rfl) (by kernel_rfl) (one_ (by kernel_rfl)) (Nat.le_of_ble_eq_true rfl) rfl ?_
      intro W7 H_
      replace HS : St W (owns []) W7 [blk g1 [.int .i64 0, .int .i64 0] 35] := H_
      clear H_
      refine ql (.bool false) (by kernel_rfl) (by kernel_rfl) ?_
      refine wpList_nil ?_
      refine x_then ?_
      refine wp_ret ?_
      refine x_thenR ?_
      refine ret_ (.tuple #[.agg #[.int .i64 0, .int .i64 0], .bool false]) (res2 rfl (oneRes_agg (p := ⟨g1, 0, none⟩) [.int .i64 0, .int .i64 0] (by kernel_rfl) (by kernel_rfl) (by kernel_rfl) (by kernel_rfl) (HS.cellsN (i := 0) rfl)) (oneRes_t (by kernel_rfl))) ?_
      exact .inr ⟨by omega, rfl, HS.tail (F := [blk g1 [.int .i64 0, .int .i64 0] 35])⟩
    · skip
      refine ql (.bool false) (by kernel_rfl) (R_nbool (p := i ≥ (arcs.length : Int)) (by kernel_rfl) (hc6)) ?_
      refine ql (.bool false) (by kernel_rfl) (by kernel_rfl) ?_
      refine wpList_nil ?_
      refine x_then ?_
      refine wp_cond_false (by kernel_rfl) ?_
      refine wp_skip ?_
      refine x_then ?_
      refine wp_seq ?_
      refine wp_region_lit ?_
      refine ql (.pointer (some ⟨g, 0, none⟩)) (by kernel_rfl) (by kernel_rfl) ?_
      refine ql (.pointer (some ⟨g, 0, none⟩)) (by kernel_rfl) (by kernel_rfl) ?_
      refine ql (.pointer (some ⟨g, 1, none⟩)) (by kernel_rfl) (by kernel_rfl) ?_
      refine ql (.slice A1 arcs.length c1) (by kernel_rfl) (R_load (p := ⟨g, 1, none⟩) (by kernel_rfl) (by kernel_rfl) (by kernel_rfl) (HS.old0 (cell_at (j := 1) hB rfl))) ?_
      refine ql (.int .i64 i) (by kernel_rfl) (by kernel_rfl) ?_
      obtain ⟨ad8, rfl⟩ := Rd.isSome_ r1 (by rw [cf_len (z := 2) (fun _ => rfl)]; omega)
      refine ql (.pointer (some (ad8.add (i.toNat * 2)))) (by kernel_rfl) (R_indexA (k := .i64) (p := ad8) (n := arcs.length) (c := c1) (i := i) (by kernel_rfl) (by kernel_rfl) Try.underlying65 (by kernel_rfl) (by omega) (by omega)) ?_
      refine ql (.agg #[.int .i64 ((gx arcs i).1), .int .i64 ((gx arcs i).2)]) (by kernel_rfl) (R_loadN (p := ad8.add (i.toNat * 2)) [.int .i64 ((gx arcs i).1), .int .i64 ((gx arcs i).2)] (by kernel_rfl) (by kernel_rfl) (by kernel_rfl) (by kernel_rfl) (HS.oldN (Rd.elem (f := arcC) (fun _ => rfl) r1 (gx_eq (by omega) (by omega))))) ?_
      refine ks (v := .agg #[.int .i64 ((gx arcs i).1), .int .i64 ((gx arcs i).2)]) HS 0 rfl (0) [.int .i64 ((gx arcs i).1), .int .i64 ((gx arcs i).2)] (by kernel_rfl) (by kernel_rfl) (by kernel_rfl) (by kernel_rfl) (by kernel_rfl) (one_ (by kernel_rfl)) (Nat.le_of_ble_eq_true rfl) rfl ?_
      intro W9 H_
      replace HS : St W (owns []) W9 [blk g1 [.int .i64 ((gx arcs i).1), .int .i64 ((gx arcs i).2)] 35] := H_
      clear H_
      refine ql (.bool true) (by kernel_rfl) (by kernel_rfl) ?_
      refine wpList_nil ?_
      refine x_then ?_
      refine wp_ret ?_
      refine ret_ (.tuple #[.agg #[.int .i64 ((gx arcs i).1), .int .i64 ((gx arcs i).2)], .bool true]) (res2 rfl (oneRes_agg (p := ⟨g1, 0, none⟩) [.int .i64 ((gx arcs i).1), .int .i64 ((gx arcs i).2)] (by kernel_rfl) (by kernel_rfl) (by kernel_rfl) (by kernel_rfl) (HS.cellsN (i := 0) rfl)) (oneRes_t (by kernel_rfl))) ?_
      exact .inl ⟨by omega, by omega, rfl, HS.tail (F := [blk g1 [.int .i64 ((gx arcs i).1), .int .i64 ((gx arcs i).2)] 35])⟩

end Go.Proofs.Ythfpdpjccnnlhaa.GBfsTells
