/- Written for this claim by gp.py, a program of this session's, over the kit's print. Lean checks it. -/
import Derived.Test.YtnabbhcagonlkaaGStackTurnsx0
import Derived.Test.YtnabbhcagonlkaaGStackTurnshx
import Derived.Test.YtnabbhcagonlkaaGStackTurnshhp1
import Derived.Test.YtnabbhcagonlkaaGStackTurnshhp2
import Derived.Test.YtnabbhcagonlkaaGStackTurnshhp4
import Derived.WalkKit
import Derived.StillTailTactics
import Derived.Deep.LoopGhost
import Derived.KernelRfl
import Derived.Deep.OwnRows
import Derived.Laws.OwnMore
import Derived.Laws.MakeOwn
import Derived.Maps.AppendAt
import Derived.OrdersHeld
namespace Go.Proofs.Ytnabbhcagonlkaa.GStackTurns
open Go.RowKit Go.Proofs.YtnabbhcagonlkaaW.PrintWords Go.Proofs.YtnabbhcagonlkaaW.PrintLast Go.Proofs.YtnabbhcagonlkaaW.PrintMore
attribute [local go_sem] max2_int min2_int max_two min_two max_three min_three max_four min_four   -- for this text's walks alone
set_option linter.unusedVariables false
set_option linter.unusedSimpArgs false

--import Derived.WalkKit
--import Derived.StillTailTactics
--import Derived.Deep.LoopGhost
--import Derived.KernelRfl
--import Derived.Deep.OwnRows
--import Derived.Laws.OwnMore
--import Derived.Laws.MakeOwn
--import Derived.Maps.AppendAt
--import Derived.OrdersHeld
attribute [local irreducible] wpStill wpList Code.wp TA

set_option maxRecDepth 100000 in
set_option maxHeartbeats 1000000 in
theorem qlen (g n : Nat) (W : World) (hc : W.cell? ⟨g, 2, none⟩ = some (.int .i64 (n : Int))) : Calls Try.prog 43 #[.pointer (some ⟨g, 0, none⟩)] W fun e W' => e = .returned (.int .i64 (n : Int)) ∧ St W (owns []) W' [] := by
  have HS : St W (owns []) W [] := St.start W _
  refine calls_enter [.pointer (some ⟨g, 0, none⟩), undef, undef, undef, undef, undef, undef, undef, undef] Try.func43 rfl (by kernel_rfl) ?_
  refine wp_seq ?_
  refine wp_region_lit ?_
  refine ql (.int .i64 0) (by kernel_rfl) (by kernel_rfl) ?_
  refine wpList_nil ?_
  refine x_then ?_
  refine wp_seq ?_
  refine wp_seq ?_
  refine wp_region_lit ?_
  refine ql (.pointer (some ⟨g, 0, none⟩)) (by kernel_rfl) (by kernel_rfl) ?_
  refine ql (.bool false) (by kernel_rfl) (by kernel_rfl) ?_
  refine wpList_nil ?_
  refine x_then ?_
  refine wp_cond_false (by kernel_rfl) ?_
  refine wp_skip ?_
  refine x_then ?_
  refine wp_seq ?_
  refine wp_region_lit ?_
  refine ql (.pointer (some ⟨g, 0, none⟩)) (by kernel_rfl) (by kernel_rfl) ?_
  refine ql (.pointer (some ⟨g, 0, none⟩)) (by kernel_rfl) (by kernel_rfl) ?_
  refine ql (.pointer (some ⟨g, 2, none⟩)) (by kernel_rfl) (by kernel_rfl) ?_
  refine ql (.int .i64 (n : Int)) (by kernel_rfl) (R_load (p := ⟨g, 2, none⟩) (by kernel_rfl) (by kernel_rfl) (by kernel_rfl) (HS.old0 hc)) ?_
  refine ql (.int .i64 (n : Int)) (by kernel_rfl) (by kernel_rfl) ?_
  refine wpList_nil ?_
  refine x_then ?_
  refine wp_ret ?_
  refine ret_ (.int .i64 (n : Int)) (by kernel_rfl) ?_
  exact ⟨rfl, HS⟩

set_option maxRecDepth 100000 in
set_option maxHeartbeats 1000000 in
theorem qpop_nil (g tb : Nat) (rest : List Value) (A : Option Addr) (c f n : Nat) (bs xs : List Int) (W : World) (M : Nat → Prop) (HS : St W M W [blk g ((.slice A bs.length c) :: (.int .i64 (f : Int)) :: (.int .i64 (n : Int)) :: rest) tb, row A bs.length c (ci .i64 bs) 3 1]) (hq : RQ bs f n xs) (hn : xs = []) : Calls Try.prog 40 #[.pointer (some ⟨g, 0, none⟩)] W fun e W' => e = .returned (.tuple #[.int .i64 0, .bool false]) ∧ St W M W' [blk g ((.slice A bs.length c) :: (.int .i64 (f : Int)) :: (.int .i64 (n : Int)) :: rest) tb, row A bs.length c (ci .i64 bs) 3 1] := by
  have hlen := hq.len
  have hqn := hq.hn
  have hqb := hq.hb
  have hqf := hq.hf
  have hnl : xs.length = 0 := by rw [hn]; rfl
  refine calls_enter ((.pointer (some ⟨g, 0, none⟩)) :: undef :: undef :: undef :: undef :: undef :: undef :: undef :: undef :: undef :: undef :: undef :: undef :: undef :: undef :: undef :: undef :: undef :: undef :: undef :: undef :: undef :: undef :: undef :: undef :: undef :: undef :: undef :: undef :: undef :: undef :: undef :: undef :: undef :: undef :: undef :: undef :: undef :: undef :: undef :: undef :: undef :: undef :: undef :: undef :: undef :: undef :: undef :: undef :: undef :: undef :: undef :: []) Try.func40 rfl (by kernel_rfl) ?_
  refine wp_seq ?_
  refine wp_region_lit ?_
  refine ql (.int .i64 0) (by kernel_rfl) (by kernel_rfl) ?_
  refine ql (.bool false) (by kernel_rfl) (by kernel_rfl) ?_
  refine wpList_nil ?_
  refine x_then ?_
  refine wp_seq ?_
  refine wp_region_lit ?_
  refine ql (.int .i64 0) (by kernel_rfl) (by kernel_rfl) ?_
  refine wpList_nil ?_
  refine x_then ?_
  refine wp_seq ?_
  refine wp_seq ?_
  refine wp_region_lit ?_
  refine ql (.pointer (some ⟨g, 0, none⟩)) (by kernel_rfl) (by kernel_rfl) ?_
  refine qc (f := 43) (args := #[.pointer (some ⟨g, 0, none⟩)]) (by kernel_rfl) (R_call #[.pointer (some ⟨g, 0, none⟩)] Try.func43 (by kernel_rfl) (by kernel_rfl) (by kernel_rfl)) ?_
  refine (qlen g n _ (HS.cell (i := 0) (j := 2) rfl rfl)).mono ?_
  rintro e W1 ⟨rfl, H_⟩
  refine ⟨_, rfl, ?_⟩
  replace HS : St W M W1 [blk g ((.slice A bs.length c) :: (.int .i64 (f : Int)) :: (.int .i64 (n : Int)) :: rest) tb, row A bs.length c (ci .i64 bs) 3 1] := HS.join (F := []) (G := []) H_
  clear H_
  refine ql (.bool true) (by kernel_rfl) (R_beq (b := ((n : Int) == (0 : Int))) (by kernel_rfl) (beq_t (by omega))) ?_
  refine wpList_nil ?_
  refine x_then ?_
  refine wp_cond_true (by kernel_rfl) ?_
  refine wp_seq ?_
  refine wp_region_lit ?_
  refine ql (.int .i64 0) (by kernel_rfl) (by kernel_rfl) ?_
  refine ql (.int .i64 0) (by kernel_rfl) (by kernel_rfl) ?_
  refine ql (.bool false) (by kernel_rfl) (by kernel_rfl) ?_
  refine wpList_nil ?_
  refine x_then ?_
  refine wp_ret ?_
  refine x_thenR ?_
  refine ret_ (.tuple #[.int .i64 0, .bool false]) (by kernel_rfl) ?_
  exact ⟨rfl, HS⟩

set_option maxRecDepth 100000 in
set_option maxHeartbeats 1000000 in
theorem qpop_some (g tb : Nat) (rest : List Value) (A : Option Addr) (c f n : Nat) (bs xs : List Int) (W : World) (M : Nat → Prop) (HS : St W M W [blk g ((.slice A bs.length c) :: (.int .i64 (f : Int)) :: (.int .i64 (n : Int)) :: rest) tb, row A bs.length c (ci .i64 bs) 3 1]) (hq : RQ bs f n xs) (hn : 0 < xs.length) : Calls Try.prog 40 #[.pointer (some ⟨g, 0, none⟩)] W fun e W' => ∃ (A' : Option Addr) (c' f' : Nat) (bs' : List Int), e = .returned (.tuple #[.int .i64 (rdI xs 0), .bool true]) ∧ St W M W' [blk g ((.slice A' bs'.length c') :: (.int .i64 (f' : Int)) :: (.int .i64 ((n - 1 : Nat) : Int)) :: rest) tb, row A' bs'.length c' (ci .i64 bs') 3 1] ∧ RQ bs' f' (n - 1) xs.tail := by
  have hlen := hq.len
  have hqn := hq.hn
  have hqb := hq.hb
  have hqf := hq.hf
  refine calls_enter ((.pointer (some ⟨g, 0, none⟩)) :: undef :: undef :: undef :: undef :: undef :: undef :: undef :: undef :: undef :: undef :: undef :: undef :: undef :: undef :: undef :: undef :: undef :: undef :: undef :: undef :: undef :: undef :: undef :: undef :: undef :: undef :: undef :: undef :: undef :: undef :: undef :: undef :: undef :: undef :: undef :: undef :: undef :: undef :: undef :: undef :: undef :: undef :: undef :: undef :: undef :: undef :: undef :: undef :: undef :: undef :: undef :: []) Try.func40 rfl (by kernel_rfl) ?_
  refine wp_seq ?_
  refine wp_region_lit ?_
  refine ql (.int .i64 0) (by kernel_rfl) (by kernel_rfl) ?_
  refine ql (.bool false) (by kernel_rfl) (by kernel_rfl) ?_
  refine wpList_nil ?_
  refine x_then ?_
  refine wp_seq ?_
  refine wp_region_lit ?_
  refine ql (.int .i64 0) (by kernel_rfl) (by kernel_rfl) ?_
  refine wpList_nil ?_
  refine x_then ?_
  refine wp_seq ?_
  refine wp_seq ?_
  refine wp_region_lit ?_
  refine ql (.pointer (some ⟨g, 0, none⟩)) (by kernel_rfl) (by kernel_rfl) ?_
  refine qc (f := 43) (args := #[.pointer (some ⟨g, 0, none⟩)]) (by kernel_rfl) (R_call #[.pointer (some ⟨g, 0, none⟩)] Try.func43 (by kernel_rfl) (by kernel_rfl) (by kernel_rfl)) ?_
  refine (qlen g n _ (HS.cell (i := 0) (j := 2) rfl rfl)).mono ?_
  rintro e W1 ⟨rfl, H_⟩
  refine ⟨_, rfl, ?_⟩
  replace HS : St W M W1 [blk g ((.slice A bs.length c) :: (.int .i64 (f : Int)) :: (.int .i64 (n : Int)) :: rest) tb, row A bs.length c (ci .i64 bs) 3 1] := HS.join (F := []) (G := []) H_
  clear H_
  refine ql (.bool false) (by kernel_rfl) (R_beq (b := ((n : Int) == (0 : Int))) (by kernel_rfl) (beq_f (by omega))) ?_
  refine wpList_nil ?_
  refine x_then ?_
  refine wp_cond_false (by kernel_rfl) ?_
  refine wp_skip ?_
  refine x_then ?_
  refine wp_seq ?_
  refine rg_still HS 10 (by kernel_rfl) (by kernel_rfl) ?_
  intro W2 H_ HK_
  simp only [List.take_succ_cons, List.take_zero, List.drop_succ_cons, List.drop_zero]
  replace HS : St W M W2 [blk g ((.slice A bs.length c) :: (.int .i64 (f : Int)) :: (.int .i64 (n : Int)) :: rest) tb, row A bs.length c (ci .i64 bs) 3 1] := H_
  clear H_
  clear HK_
  refine qs (.pointer (some ⟨g, 0, none⟩)) (by kernel_rfl) (by kernel_rfl) ?_
  refine qs (.pointer (some ⟨g, 0, none⟩)) (by kernel_rfl) (by kernel_rfl) ?_
  refine qs (.pointer (some ⟨g, 0, none⟩)) (by kernel_rfl) (by kernel_rfl) ?_
  refine qs (.slice A bs.length c) (by kernel_rfl) (R_load (p := ⟨g, 0, none⟩) (by kernel_rfl) (by kernel_rfl) (by kernel_rfl) (HS.cell (i := 0) (j := 0) rfl rfl)) ?_
  refine qs (.pointer (some ⟨g, 0, none⟩)) (by kernel_rfl) (by kernel_rfl) ?_
  refine qs (.pointer (some ⟨g, 0, none⟩)) (by kernel_rfl) (by kernel_rfl) ?_
  refine qs (.pointer (some ⟨g, 1, none⟩)) (by kernel_rfl) (by kernel_rfl) ?_
  refine qs (.int .i64 (f : Int)) (by kernel_rfl) (R_load (p := ⟨g, 1, none⟩) (by kernel_rfl) (by kernel_rfl) (by kernel_rfl) (HS.cell (i := 0) (j := 1) rfl rfl)) ?_
  obtain ⟨g3, rfl⟩ := St.rsome HS (i := 1) rfl (by omega)
  refine qs (.pointer (some ⟨g3, (f : Int).toNat, none⟩)) (by kernel_rfl) (R_index1 (k := .i64) (g := g3) (n := bs.length) (c := c) (i := (f : Int)) (by kernel_rfl) (by kernel_rfl) Try.underlying49 (by kernel_rfl) (by omega) (by omega)) ?_
  refine qs (.int .i64 (rdI bs (f : Int))) (by kernel_rfl) (R_load (p := ⟨g3, (f : Int).toNat, none⟩) (by kernel_rfl) (by kernel_rfl) (by kernel_rfl) (HS.rcell (i := 1) rfl (ci_rd (i := (f : Int)) (by omega) (by omega)))) ?_
  refine wpStill_nil ?_
  refine ql (.int .i64 (rdI bs (f : Int))) (by kernel_rfl) (by kernel_rfl) ?_
  refine wpList_nil ?_
  refine x_then ?_
  refine wp_seq ?_
  refine rg_still HS 10 (by kernel_rfl) (by kernel_rfl) ?_
  intro W4 H_ HK_
  simp only [List.take_succ_cons, List.take_zero, List.drop_succ_cons, List.drop_zero]
  replace HS : St W M W4 [blk g ((.slice (some ⟨g3, 0, none⟩) bs.length c) :: (.int .i64 (f : Int)) :: (.int .i64 (n : Int)) :: rest) tb, row (some ⟨g3, 0, none⟩) bs.length c (ci .i64 bs) 3 1] := H_
  clear H_
  clear HK_
  refine qs (.pointer (some ⟨g, 0, none⟩)) (by kernel_rfl) (by kernel_rfl) ?_
  refine qs (.pointer (some ⟨g, 0, none⟩)) (by kernel_rfl) (by kernel_rfl) ?_
  refine qs (.pointer (some ⟨g, 0, none⟩)) (by kernel_rfl) (by kernel_rfl) ?_
  refine qs (.slice (some ⟨g3, 0, none⟩) bs.length c) (by kernel_rfl) (R_load (p := ⟨g, 0, none⟩) (by kernel_rfl) (by kernel_rfl) (by kernel_rfl) (HS.cell (i := 0) (j := 0) rfl rfl)) ?_
  refine qs (.pointer (some ⟨g, 0, none⟩)) (by kernel_rfl) (by kernel_rfl) ?_
  refine qs (.pointer (some ⟨g, 0, none⟩)) (by kernel_rfl) (by kernel_rfl) ?_
  refine qs (.pointer (some ⟨g, 1, none⟩)) (by kernel_rfl) (by kernel_rfl) ?_
  refine qs (.int .i64 (f : Int)) (by kernel_rfl) (R_load (p := ⟨g, 1, none⟩) (by kernel_rfl) (by kernel_rfl) (by kernel_rfl) (HS.cell (i := 0) (j := 1) rfl rfl)) ?_
  refine qs (.int .i64 0) (by kernel_rfl) (by kernel_rfl) ?_
  refine qs (.pointer (some ⟨g3, (f : Int).toNat, none⟩)) (by kernel_rfl) (R_index1 (k := .i64) (g := g3) (n := bs.length) (c := c) (i := (f : Int)) (by kernel_rfl) (by kernel_rfl) Try.underlying49 (by kernel_rfl) (by omega) (by omega)) ?_
  refine wpStill_nil ?_
  refine kr (v := .int .i64 0) HS 1 rfl ((f : Int).toNat) [.int .i64 0] (by kernel_rfl) (by kernel_rfl) (by kernel_rfl) (by kernel_rfl) (by kernel_rfl) (one_ (by kernel_rfl)) (by rw [ci_len]; first | omega | (simp only [List.length_singleton]; omega)) rfl ?_
  intro W5 H_
  obtain ⟨xs6, xs6_⟩ : ∃ z_ : List Int, z_ = (bs).set (f : Int).toNat 0 := ⟨_, rfl⟩
  replace HS : St W M W5 [blk g ((.slice (some ⟨g3, 0, none⟩) bs.length c) :: (.int .i64 (f : Int)) :: (.int .i64 (n : Int)) :: rest) tb, row (some ⟨g3, 0, none⟩) bs.length c (ci .i64 xs6) 3 1] := H_.cast_ (by rw [xs6_, ← ci_set]; rfl)
  clear H_
  have xs6l : xs6.length = bs.length := by rw [xs6_, List.length_set]; first | done | omega
  refine wpList_nil ?_
  refine x_then ?_
  refine wp_seq ?_
  refine rg_still HS 14 (by kernel_rfl) (by kernel_rfl) ?_
  intro W7 H_ HK_
  simp only [List.take_succ_cons, List.take_zero, List.drop_succ_cons, List.drop_zero]
  replace HS : St W M W7 [blk g ((.slice (some ⟨g3, 0, none⟩) bs.length c) :: (.int .i64 (f : Int)) :: (.int .i64 (n : Int)) :: rest) tb, row (some ⟨g3, 0, none⟩) bs.length c (ci .i64 xs6) 3 1] := H_
  clear H_
  clear HK_
  refine qs (.pointer (some ⟨g, 0, none⟩)) (by kernel_rfl) (by kernel_rfl) ?_
  refine qs (.pointer (some ⟨g, 0, none⟩)) (by kernel_rfl) (by kernel_rfl) ?_
  refine qs (.pointer (some ⟨g, 0, none⟩)) (by kernel_rfl) (by kernel_rfl) ?_
  refine qs (.pointer (some ⟨g, 1, none⟩)) (by kernel_rfl) (by kernel_rfl) ?_
  refine qs (.int .i64 (f : Int)) (by kernel_rfl) (R_load (p := ⟨g, 1, none⟩) (by kernel_rfl) (by kernel_rfl) (by kernel_rfl) (HS.cell (i := 0) (j := 1) rfl rfl)) ?_
  refine qs (.int .i64 ((f : Int) + 1)) (by kernel_rfl) (R_int (by kernel_rfl) (w64 (by omega))) ?_
  refine qs (.pointer (some ⟨g, 0, none⟩)) (by kernel_rfl) (by kernel_rfl) ?_
  refine qs (.pointer (some ⟨g, 0, none⟩)) (by kernel_rfl) (by kernel_rfl) ?_
  refine qs (.pointer (some ⟨g, 0, none⟩)) (by kernel_rfl) (by kernel_rfl) ?_
  refine qs (.slice (some ⟨g3, 0, none⟩) bs.length c) (by kernel_rfl) (R_load (p := ⟨g, 0, none⟩) (by kernel_rfl) (by kernel_rfl) (by kernel_rfl) (HS.cell (i := 0) (j := 0) rfl rfl)) ?_
  refine qs (.int .i64 (bs.length : Int)) (by kernel_rfl) (by kernel_rfl) ?_
  obtain ⟨f2, f2_⟩ : ∃ z_ : Nat, z_ = (f + 1) % bs.length := ⟨_, rfl⟩
  have f2l : f2 < bs.length := by rw [f2_]; exact Nat.mod_lt _ (by omega)
  refine qs (.int .i64 (f2 : Int)) (by kernel_rfl) (R_eq (R_rem (i := f + 1) (j := bs.length) (by kernel_rfl) (by kernel_rfl) (by omega) (by omega)) (by rw [← f2_])) ?_
  refine qs (.pointer (some ⟨g, 0, none⟩)) (by kernel_rfl) (by kernel_rfl) ?_
  refine qs (.pointer (some ⟨g, 1, none⟩)) (by kernel_rfl) (by kernel_rfl) ?_
  refine wpStill_nil ?_
  refine ks (v := .int .i64 (f2 : Int)) HS 0 rfl (1) [.int .i64 (f2 : Int)] (by kernel_rfl) (by kernel_rfl) (by kernel_rfl) (by kernel_rfl) (by kernel_rfl) (one_ (by kernel_rfl)) (Nat.le_of_ble_eq_true rfl) rfl ?_
  intro W8 H_
  replace HS : St W M W8 [blk g ((.slice (some ⟨g3, 0, none⟩) bs.length c) :: (.int .i64 (f2 : Int)) :: (.int .i64 (n : Int)) :: rest) tb, row (some ⟨g3, 0, none⟩) bs.length c (ci .i64 xs6) 3 1] := H_
  clear H_
  refine wpList_nil ?_
  refine x_then ?_
  refine wp_seq ?_
  refine wp_region_lit ?_
  refine ql (.pointer (some ⟨g, 0, none⟩)) (by kernel_rfl) (by kernel_rfl) ?_
  refine ql (.pointer (some ⟨g, 0, none⟩)) (by kernel_rfl) (by kernel_rfl) ?_
  refine ql (.pointer (some ⟨g, 2, none⟩)) (by kernel_rfl) (by kernel_rfl) ?_
  refine ql (.int .i64 (n : Int)) (by kernel_rfl) (R_load (p := ⟨g, 2, none⟩) (by kernel_rfl) (by kernel_rfl) (by kernel_rfl) (HS.cell (i := 0) (j := 2) rfl rfl)) ?_
  refine ql (.int .i64 ((n : Int) - 1)) (by kernel_rfl) (R_int (by kernel_rfl) (w64 (by omega))) ?_
  refine ql (.pointer (some ⟨g, 0, none⟩)) (by kernel_rfl) (by kernel_rfl) ?_
  refine ql (.pointer (some ⟨g, 2, none⟩)) (by kernel_rfl) (by kernel_rfl) ?_
  refine ks (v := .int .i64 ((n : Int) - 1)) HS 0 rfl (2) [.int .i64 ((n : Int) - 1)] (by kernel_rfl) (by kernel_rfl) (by kernel_rfl) (by kernel_rfl) (by kernel_rfl) (one_ (by kernel_rfl)) (Nat.le_of_ble_eq_true rfl) rfl ?_
  intro W9 H_
  replace HS : St W M W9 [blk g ((.slice (some ⟨g3, 0, none⟩) bs.length c) :: (.int .i64 (f2 : Int)) :: (.int .i64 ((n : Int) - 1)) :: rest) tb, row (some ⟨g3, 0, none⟩) bs.length c (ci .i64 xs6) 3 1] := H_
  clear H_
  refine wpList_nil ?_
  refine x_then ?_
  refine wp_seq ?_
  refine wp_region_lit ?_
  refine ql (.int .i64 (rdI bs (f : Int))) (by kernel_rfl) (by kernel_rfl) ?_
  refine ql (.int .i64 (rdI bs (f : Int))) (by kernel_rfl) (by kernel_rfl) ?_
  refine ql (.bool true) (by kernel_rfl) (by kernel_rfl) ?_
  refine wpList_nil ?_
  refine x_then ?_
  refine wp_ret ?_
  refine ret_ (.tuple #[.int .i64 (rdI bs (f : Int)), .bool true]) (by kernel_rfl) ?_
  have hqp := hq.pop (by omega) (q := xs6) (by rw [xs6_]; rfl)
  rw [← f2_] at hqp
  have hn2 : (n : Int) - 1 = ((n - 1 : Nat) : Int) := by omega
  rw [hn2, ← xs6l] at HS
  have hv : rdI bs (f : Int) = rdI xs 0 := by rw [hqp.1]; unfold rdI; rfl
  exact ⟨_, _, f2, _, by rw [hv], HS, hqp.2⟩

set_option maxRecDepth 100000 in
set_option maxHeartbeats 1000000 in
theorem qpush (g tb : Nat) (rest : List Value) (A0 B : Option Addr) (c0 d f0 n0 : Nat) (bs0 xs0 ys : List Int) (W : World) (M : Nat → Prop) (HS : St W M W [blk g ((.slice A0 bs0.length c0) :: (.int .i64 (f0 : Int)) :: (.int .i64 (n0 : Int)) :: rest) tb, row A0 bs0.length c0 (ci .i64 bs0) 3 1, row B ys.length d (ci .i64 ys) 3 1]) (hq0 : RQ bs0 f0 n0 xs0) (hl : xs0.length + ys.length ≤ 1099511627776) : Calls Try.prog 36 #[.pointer (some ⟨g, 0, none⟩), .slice B ys.length d] W fun e W' => ∃ (A' : Option Addr) (c' f' n' : Nat) (bs' : List Int), e = .returned (.tuple #[]) ∧ St W M W' [blk g ((.slice A' bs'.length c') :: (.int .i64 (f' : Int)) :: (.int .i64 (n' : Int)) :: rest) tb, row A' bs'.length c' (ci .i64 bs') 3 1] ∧ RQ bs' f' n' (xs0 ++ ys) := by
  refine calls_enter ((.pointer (some ⟨g, 0, none⟩)) :: (.slice B ys.length d) :: undef :: undef :: undef :: undef :: undef :: undef :: undef :: undef :: undef :: undef :: undef :: undef :: undef :: undef :: undef :: undef :: undef :: undef :: undef :: undef :: undef :: undef :: undef :: undef :: undef :: undef :: undef :: undef :: undef :: undef :: undef :: undef :: undef :: undef :: undef :: undef :: undef :: undef :: undef :: undef :: undef :: undef :: undef :: undef :: undef :: undef :: undef :: undef :: undef :: undef :: undef :: undef :: undef :: undef :: undef :: undef :: undef :: undef :: undef :: undef :: undef :: undef :: undef :: undef :: undef :: undef :: undef :: undef :: undef :: undef :: undef :: undef :: undef :: undef :: undef :: undef :: undef :: undef :: undef :: undef :: undef :: undef :: undef :: undef :: undef :: undef :: undef :: undef :: undef :: undef :: undef :: []) Try.func36 rfl (by kernel_rfl) ?_
  refine wp_seq ?_
  refine wp_seq ?_
  refine wp_region_lit ?_
  refine ql (.pointer (some ⟨g, 0, none⟩)) (by kernel_rfl) (by kernel_rfl) ?_
  refine ql (.bool false) (by kernel_rfl) (by kernel_rfl) ?_
  refine wpList_nil ?_
  refine x_then ?_
  refine wp_cond_false (by kernel_rfl) ?_
  refine wp_skip ?_
  refine x_then ?_
  refine wp_seq ?_
  refine wp_region_lit ?_
  refine ql (.slice B ys.length d) (by kernel_rfl) (by kernel_rfl) ?_
  refine ql (.int .i64 (ys.length : Int)) (by kernel_rfl) (by kernel_rfl) ?_
  refine ql (.int .i64 0) (by kernel_rfl) (by kernel_rfl) ?_
  refine wpList_nil ?_
  refine x_then ?_
  refine wp_block ?_
  refine wp_loop_ghost (fun kq a' w' => ∃ (J1 : Nat → Value) (i : Int) (A : Option Addr) (c : Nat) (f : Nat) (n : Nat) (bs : List Int) , a' = Fr ((.pointer (some ⟨g, 0, none⟩)) :: (.slice B ys.length d) :: undef :: undef :: undef :: ((J1 5)) :: ((J1 6)) :: ((J1 7)) :: (.pointer (some ⟨g, 0, none⟩)) :: (.bool false) :: (.slice B ys.length d) :: (.int .i64 (ys.length : Int)) :: (.int .i64 i) :: ((J1 13)) :: ((J1 14)) :: ((J1 15)) :: ((J1 16)) :: ((J1 17)) :: ((J1 18)) :: ((J1 19)) :: ((J1 20)) :: ((J1 21)) :: ((J1 22)) :: ((J1 23)) :: ((J1 24)) :: ((J1 25)) :: ((J1 26)) :: ((J1 27)) :: ((J1 28)) :: ((J1 29)) :: ((J1 30)) :: ((J1 31)) :: ((J1 32)) :: ((J1 33)) :: ((J1 34)) :: ((J1 35)) :: ((J1 36)) :: ((J1 37)) :: ((J1 38)) :: ((J1 39)) :: ((J1 40)) :: ((J1 41)) :: ((J1 42)) :: ((J1 43)) :: ((J1 44)) :: ((J1 45)) :: ((J1 46)) :: ((J1 47)) :: ((J1 48)) :: ((J1 49)) :: ((J1 50)) :: ((J1 51)) :: ((J1 52)) :: ((J1 53)) :: ((J1 54)) :: ((J1 55)) :: ((J1 56)) :: ((J1 57)) :: ((J1 58)) :: ((J1 59)) :: ((J1 60)) :: ((J1 61)) :: ((J1 62)) :: ((J1 63)) :: ((J1 64)) :: ((J1 65)) :: ((J1 66)) :: ((J1 67)) :: ((J1 68)) :: ((J1 69)) :: ((J1 70)) :: ((J1 71)) :: ((J1 72)) :: ((J1 73)) :: ((J1 74)) :: ((J1 75)) :: ((J1 76)) :: ((J1 77)) :: ((J1 78)) :: ((J1 79)) :: ((J1 80)) :: ((J1 81)) :: ((J1 82)) :: ((J1 83)) :: ((J1 84)) :: ((J1 85)) :: ((J1 86)) :: ((J1 87)) :: ((J1 88)) :: ((J1 89)) :: ((J1 90)) :: ((J1 91)) :: ((J1 92)) :: []) ∧ kq = (ys.length - (i).toNat) ∧ (0 ≤ i) ∧ (i ≤ ys.length) ∧ (RQ bs f n (xs0 ++ ys.take (i).toNat)) ∧ St W M w' [blk g ((.slice A bs.length c) :: (.int .i64 (f : Int)) :: (.int .i64 (n : Int)) :: rest) tb, row A bs.length c (ci .i64 bs) 3 1, row B ys.length d (ci .i64 ys) 3 1]) (ys.length - ((0 : Int)).toNat) ⟨(fun k_ : Nat => List.getD ((.pointer (some ⟨g, 0, none⟩)) :: (.slice B ys.length d) :: undef :: undef :: undef :: undef :: undef :: undef :: (.pointer (some ⟨g, 0, none⟩)) :: (.bool false) :: (.slice B ys.length d) :: (.int .i64 (ys.length : Int)) :: (.int .i64 0) :: undef :: undef :: undef :: undef :: undef :: undef :: undef :: undef :: undef :: undef :: undef :: undef :: undef :: undef :: undef :: undef :: undef :: undef :: undef :: undef :: undef :: undef :: undef :: undef :: undef :: undef :: undef :: undef :: undef :: undef :: undef :: undef :: undef :: undef :: undef :: undef :: undef :: undef :: undef :: undef :: undef :: undef :: undef :: undef :: undef :: undef :: undef :: undef :: undef :: undef :: undef :: undef :: undef :: undef :: undef :: undef :: undef :: undef :: undef :: undef :: undef :: undef :: undef :: undef :: undef :: undef :: undef :: undef :: undef :: undef :: undef :: undef :: undef :: undef :: undef :: undef :: undef :: undef :: undef :: undef :: []) k_ undef), (0 : Int), A0, c0, f0, n0, bs0, congrArg Fr (by kernel_rfl), rfl, by omega, by omega, by simpa using hq0, HS⟩ ?_
  clear HS
  intro kq2 a' W3 hrel
  obtain ⟨J1, i, A, c, f, n, bs, rfl, hk, i0, i1, hq, HS⟩ := hrel
  have hlen := hq.len
  have hqn := hq.hn
  have hqb := hq.hb
  have hqf := hq.hf
  have hq0 := hq.h0
  have hxl : (xs0 ++ ys.take i.toNat).length ≤ xs0.length + ys.length := by rw [List.length_append, List.length_take]; omega
  refine wp_seq ?_
  refine wp_region_lit ?_
  by_cases hc4 : i < (ys.length : Int)
  · skip
    refine ql (.bool true) (by kernel_rfl) (R_bool (p := i < (ys.length : Int)) (by kernel_rfl) (hc4)) ?_
    refine wpList_nil ?_
    refine x_then ?_
    refine wp_seq ?_
    refine wp_cond_true (by kernel_rfl) ?_
    refine wp_skip ?_
    refine x_then ?_
    refine wp_seq ?_
    refine wp_block ?_
    refine wp_seq ?_
    refine wp_region_lit ?_
    obtain ⟨g5, rfl⟩ := St.rsome HS (i := 2) rfl (by omega)
    refine ql (.pointer (some ⟨g5, i.toNat, none⟩)) (by kernel_rfl) (R_index1 (k := .i64) (g := g5) (n := ys.length) (c := d) (i := i) (by kernel_rfl) (by kernel_rfl) Try.underlying49 (by kernel_rfl) (by omega) (by omega)) ?_
    refine ql (.int .i64 (rdI ys i)) (by kernel_rfl) (R_load (p := ⟨g5, i.toNat, none⟩) (by kernel_rfl) (by kernel_rfl) (by kernel_rfl) (HS.rcell (i := 2) rfl (ci_rd (i := i) (by omega) (by omega)))) ?_
    refine ql (.int .i64 (rdI ys i)) (by kernel_rfl) (by kernel_rfl) ?_
    refine wpList_nil ?_
    refine x_then ?_
    refine wp_seq ?_
    refine wp_seq ?_
    refine rg_still HS 9 (by kernel_rfl) (by kernel_rfl) ?_
    intro W6 H_ HK_
    simp only [List.take_succ_cons, List.take_zero, List.drop_succ_cons, List.drop_zero]
    replace HS : St W M W6 [blk g ((.slice A bs.length c) :: (.int .i64 (f : Int)) :: (.int .i64 (n : Int)) :: rest) tb, row A bs.length c (ci .i64 bs) 3 1, row (some ⟨g5, 0, none⟩) ys.length d (ci .i64 ys) 3 1] := H_
    clear H_
    clear HK_
    refine qs (.pointer (some ⟨g, 0, none⟩)) (by kernel_rfl) (by kernel_rfl) ?_
    refine qs (.pointer (some ⟨g, 0, none⟩)) (by kernel_rfl) (by kernel_rfl) ?_
    refine qs (.pointer (some ⟨g, 2, none⟩)) (by kernel_rfl) (by kernel_rfl) ?_
    refine qs (.int .i64 (n : Int)) (by kernel_rfl) (R_load (p := ⟨g, 2, none⟩) (by kernel_rfl) (by kernel_rfl) (by kernel_rfl) (HS.cell (i := 0) (j := 2) rfl rfl)) ?_
    refine qs (.pointer (some ⟨g, 0, none⟩)) (by kernel_rfl) (by kernel_rfl) ?_
    refine qs (.pointer (some ⟨g, 0, none⟩)) (by kernel_rfl) (by kernel_rfl) ?_
    refine qs (.pointer (some ⟨g, 0, none⟩)) (by kernel_rfl) (by kernel_rfl) ?_
    refine qs (.slice A bs.length c) (by kernel_rfl) (R_load (p := ⟨g, 0, none⟩) (by kernel_rfl) (by kernel_rfl) (by kernel_rfl) (HS.cell (i := 0) (j := 0) rfl rfl)) ?_
    refine qs (.int .i64 (bs.length : Int)) (by kernel_rfl) (by kernel_rfl) ?_
    refine wpStill_nil ?_
    by_cases hc7 : (n : Int) = (bs.length : Int)
    · skip
      refine ql (.bool true) (by kernel_rfl) (R_beq (b := ((n : Int) == (bs.length : Int))) (by kernel_rfl) (beq_t (hc7))) ?_
      refine wpList_nil ?_
      refine x_then ?_
      refine wp_cond_true (by kernel_rfl) ?_
      refine wp_seq ?_
      refine wp_region_lit ?_
      refine ql (.pointer (some ⟨g, 0, none⟩)) (by kernel_rfl) (by kernel_rfl) ?_
      refine ql (.pointer (some ⟨g, 0, none⟩)) (by kernel_rfl) (by kernel_rfl) ?_
      refine ql (.pointer (some ⟨g, 2, none⟩)) (by kernel_rfl) (by kernel_rfl) ?_
      refine ql (.int .i64 (n : Int)) (by kernel_rfl) (R_load (p := ⟨g, 2, none⟩) (by kernel_rfl) (by kernel_rfl) (by kernel_rfl) (HS.cell (i := 0) (j := 2) rfl rfl)) ?_
      refine ql (.int .i64 (2 * (n : Int))) (by kernel_rfl) (R_int (by kernel_rfl) (w64 (by omega))) ?_
      obtain ⟨m, hm⟩ : ∃ z_ : Nat, (z_ : Int) = max (4 : Int) (2 * (n : Int)) := ⟨(max (4 : Int) (2 * (n : Int))).toNat, by omega⟩
      have hm1 : 4 ≤ m ∧ 2 * n ≤ m ∧ m ≤ 2199023255556 := by omega
      refine ql (.int .i64 (m : Int)) (by kernel_rfl) (R_eq (R_max (i := 4) (j := 2 * (n : Int)) (by kernel_rfl) (by kernel_rfl)) (by rw [hm])) ?_
      refine km HS (m) [.int .i64 0] 8 (by kernel_rfl) (k_eq (k := .i64) (m := (m : Int)) (by kernel_rfl) (by omega)) (k_eq (k := .i64) (m := (m : Int)) (by kernel_rfl) (by omega)) Try.underlying49 (by kernel_rfl) (by kernel_rfl) (by kernel_rfl) (by decide) (by omega) (by omega) ?_
      intro g8 W9 H_
      replace HS : St W M W9 [row (some ⟨g8, 0, none⟩) m m (ci .i64 (List.replicate (m) 0)) 3 1, blk g ((.slice A bs.length c) :: (.int .i64 (f : Int)) :: (.int .i64 (n : Int)) :: rest) tb, row A bs.length c (ci .i64 bs) 3 1, row (some ⟨g5, 0, none⟩) ys.length d (ci .i64 ys) 3 1] := H_.cast_ (by rw [ci_rep]; rfl)
      clear H_
      have rlg8 : (List.replicate (m) (0 : Int)).length = m := List.length_replicate
      refine ql (.slice (some ⟨g8, 0, none⟩) m m) (by kernel_rfl) (by kernel_rfl) ?_
      refine wpList_nil ?_
      refine x_then ?_
      refine wp_seq ?_
      refine rg_still HS 10 (by kernel_rfl) (by kernel_rfl) ?_
      intro W10 H_ HK_
      simp only [List.take_succ_cons, List.take_zero, List.drop_succ_cons, List.drop_zero]
      replace HS : St W M W10 [row (some ⟨g8, 0, none⟩) m m (ci .i64 (List.replicate (m) 0)) 3 1, blk g ((.slice A bs.length c) :: (.int .i64 (f : Int)) :: (.int .i64 (n : Int)) :: rest) tb, row A bs.length c (ci .i64 bs) 3 1, row (some ⟨g5, 0, none⟩) ys.length d (ci .i64 ys) 3 1] := H_
      clear H_
      clear HK_
      refine qs (.slice (some ⟨g8, 0, none⟩) m m) (by kernel_rfl) (by kernel_rfl) ?_
      refine qs (.pointer (some ⟨g, 0, none⟩)) (by kernel_rfl) (by kernel_rfl) ?_
      refine qs (.pointer (some ⟨g, 0, none⟩)) (by kernel_rfl) (by kernel_rfl) ?_
      refine qs (.pointer (some ⟨g, 0, none⟩)) (by kernel_rfl) (by kernel_rfl) ?_
      refine qs (.slice A bs.length c) (by kernel_rfl) (R_load (p := ⟨g, 0, none⟩) (by kernel_rfl) (by kernel_rfl) (by kernel_rfl) (HS.cell (i := 1) (j := 0) rfl rfl)) ?_
      refine qs (.pointer (some ⟨g, 0, none⟩)) (by kernel_rfl) (by kernel_rfl) ?_
      refine qs (.pointer (some ⟨g, 0, none⟩)) (by kernel_rfl) (by kernel_rfl) ?_
      refine qs (.pointer (some ⟨g, 1, none⟩)) (by kernel_rfl) (by kernel_rfl) ?_
      refine qs (.int .i64 (f : Int)) (by kernel_rfl) (R_load (p := ⟨g, 1, none⟩) (by kernel_rfl) (by kernel_rfl) (by kernel_rfl) (HS.cell (i := 1) (j := 1) rfl rfl)) ?_
      refine qs (.slice (cutA A c f 1) (bs.length - f) (c - f)) (by kernel_rfl) (R_sliceL (k := .i64) (A := A) (n := bs.length) (c := c) (i := (f : Int)) (by kernel_rfl) (by kernel_rfl) Try.underlying49 (by kernel_rfl) (by omega) (by omega)) ?_
      refine wpStill_nil ?_
      refine kcp HS 0 rfl 0 m m (Src.tail (m := f) (Src.of_row HS (i := 2) rfl ci_one) (by omega) (St.rcap HS (i := 2) rfl).1) (by omega) (by rw [ci_len, List.length_replicate]; omega) (by kernel_rfl) (by kernel_rfl) (by kernel_rfl) Try.underlying49 (by kernel_rfl) ?_
      intro W11 H_
      obtain ⟨q1, q1_⟩ : ∃ z_ : List Int, z_ = (List.replicate m (0 : Int)).take 0 ++ bs.drop f ++ (List.replicate m (0 : Int)).drop (0 + (bs.drop f).length) := ⟨_, rfl⟩
      have hsp : splice (ci .i64 (List.replicate m 0)) 0 ((ci .i64 bs).drop f) = ci .i64 q1 := by rw [ci_drop, ci_splice (by rw [List.length_drop, List.length_replicate]; omega), q1_]
      have q1l : q1.length = m := by rw [q1_]; simp; omega
      rw [hsp] at H_
      replace HS : St W M W11 [row (some ⟨g8, 0, none⟩) m m (ci .i64 q1) 3 1, blk g ((.slice A bs.length c) :: (.int .i64 (f : Int)) :: (.int .i64 (n : Int)) :: rest) tb, row A bs.length c (ci .i64 bs) 3 1, row (some ⟨g5, 0, none⟩) ys.length d (ci .i64 ys) 3 1] := H_.cast_ (by rfl)
      clear H_
      refine ql (.int .i64 ((bs.length - f : Nat) : Int)) (by kernel_rfl) (by kernel_rfl) ?_
      refine wpList_nil ?_
      refine x_then ?_
      refine wp_seq ?_
      have hcap := (St.rcap HS (i := 2) rfl).1
      refine rg_still HS 12 (by kernel_rfl) (by kernel_rfl) ?_
      intro W12 H_ HK_
      simp only [List.take_succ_cons, List.take_zero, List.drop_succ_cons, List.drop_zero]
      replace HS : St W M W12 [row (some ⟨g8, 0, none⟩) m m (ci .i64 q1) 3 1, blk g ((.slice A bs.length c) :: (.int .i64 (f : Int)) :: (.int .i64 (n : Int)) :: rest) tb, row A bs.length c (ci .i64 bs) 3 1, row (some ⟨g5, 0, none⟩) ys.length d (ci .i64 ys) 3 1] := H_
      clear H_
      clear HK_
      refine qs (.slice (some ⟨g8, 0, none⟩) m m) (by kernel_rfl) (by kernel_rfl) ?_
      refine qs (.int .i64 ((bs.length - f : Nat) : Int)) (by kernel_rfl) (by kernel_rfl) ?_
      refine qs (.slice (some ⟨g8, (bs.length - f), none⟩) (m - (bs.length - f)) (m - (bs.length - f))) (by kernel_rfl) (R_eq (R_sliceL (k := .i64) (A := some ⟨g8, 0, none⟩) (n := m) (c := m) (i := ((bs.length - f : Nat) : Int)) (by kernel_rfl) (by kernel_rfl) Try.underlying49 (by kernel_rfl) (by omega) (by omega)) (by rw [Int.toNat_natCast, cutA_blk (by omega)])) ?_
      refine qs (.pointer (some ⟨g, 0, none⟩)) (by kernel_rfl) (by kernel_rfl) ?_
      refine qs (.pointer (some ⟨g, 0, none⟩)) (by kernel_rfl) (by kernel_rfl) ?_
      refine qs (.pointer (some ⟨g, 0, none⟩)) (by kernel_rfl) (by kernel_rfl) ?_
      refine qs (.slice A bs.length c) (by kernel_rfl) (R_load (p := ⟨g, 0, none⟩) (by kernel_rfl) (by kernel_rfl) (by kernel_rfl) (HS.cell (i := 1) (j := 0) rfl rfl)) ?_
      refine qs (.pointer (some ⟨g, 0, none⟩)) (by kernel_rfl) (by kernel_rfl) ?_
      refine qs (.pointer (some ⟨g, 0, none⟩)) (by kernel_rfl) (by kernel_rfl) ?_
      refine qs (.pointer (some ⟨g, 1, none⟩)) (by kernel_rfl) (by kernel_rfl) ?_
      refine qs (.int .i64 (f : Int)) (by kernel_rfl) (R_load (p := ⟨g, 1, none⟩) (by kernel_rfl) (by kernel_rfl) (by kernel_rfl) (HS.cell (i := 1) (j := 1) rfl rfl)) ?_
      refine qs (.slice A f c) (by kernel_rfl) (R_sliceH (z := 1) (e := 3) (k := .i64) (A := A) (n := bs.length) (c := c) (i := (f : Int)) (by kernel_rfl) (by kernel_rfl) Try.underlying49 (by kernel_rfl) (by omega) (by omega)) ?_
      refine wpStill_nil ?_
      refine kcp HS 0 rfl (bs.length - f) (m - (bs.length - f)) (m - (bs.length - f)) (Src.head (m := f) (Src.of_row HS (i := 2) rfl ci_one) (by omega)) (by omega) (by rw [ci_len]; omega) (by kernel_rfl) (by kernel_rfl) (by kernel_rfl) Try.underlying49 (by kernel_rfl) ?_
      intro W13 H_
      obtain ⟨q2, q2_⟩ : ∃ z_ : List Int, z_ = q1.take (bs.length - f) ++ bs.take f ++ q1.drop (bs.length - f + (bs.take f).length) := ⟨_, rfl⟩
      have hsp2 : splice (ci .i64 q1) (bs.length - f) ((ci .i64 bs).take f) = ci .i64 q2 := by rw [ci_take', ci_splice (by rw [List.length_take]; omega), q2_]
      have q2l : q2.length = m := by rw [q2_]; simp; omega
      have q2e : q2 = bs.drop f ++ bs.take f ++ List.replicate (m - bs.length) 0 := ring_copy (by omega) (by omega) q1_ q2_
      rw [hsp2] at H_
      replace HS : St W M W13 [row (some ⟨g8, 0, none⟩) m m (ci .i64 q2) 3 1, blk g ((.slice A bs.length c) :: (.int .i64 (f : Int)) :: (.int .i64 (n : Int)) :: rest) tb, row A bs.length c (ci .i64 bs) 3 1, row (some ⟨g5, 0, none⟩) ys.length d (ci .i64 ys) 3 1] := H_.cast_ (by rfl)
      clear H_
      refine wpList_nil ?_
      refine x_then ?_
      refine wp_region_lit ?_
      refine ql (.pointer (some ⟨g, 0, none⟩)) (by kernel_rfl) (by kernel_rfl) ?_
      refine ql (.pointer (some ⟨g, 0, none⟩)) (by kernel_rfl) (by kernel_rfl) ?_
      refine ql (.slice (some ⟨g8, 0, none⟩) m m) (by kernel_rfl) (by kernel_rfl) ?_
      refine ql (.pointer (some ⟨g, 0, none⟩)) (by kernel_rfl) (by kernel_rfl) ?_
      refine ql (.pointer (some ⟨g, 0, none⟩)) (by kernel_rfl) (by kernel_rfl) ?_
      refine ks (v := .slice (some ⟨g8, 0, none⟩) m m) HS 1 rfl (0) [.slice (some ⟨g8, 0, none⟩) m m] (by kernel_rfl) (by kernel_rfl) (by kernel_rfl) (by kernel_rfl) (by kernel_rfl) (one_ (by kernel_rfl)) (Nat.le_of_ble_eq_true rfl) rfl ?_
      intro W14 H_
      replace HS : St W M W14 [row (some ⟨g8, 0, none⟩) m m (ci .i64 q2) 3 1, blk g ((.slice (some ⟨g8, 0, none⟩) m m) :: (.int .i64 (f : Int)) :: (.int .i64 (n : Int)) :: rest) tb, row A bs.length c (ci .i64 bs) 3 1, row (some ⟨g5, 0, none⟩) ys.length d (ci .i64 ys) 3 1] := H_
      clear H_
      refine ql (.pointer (some ⟨g, 0, none⟩)) (by kernel_rfl) (by kernel_rfl) ?_
      refine ql (.pointer (some ⟨g, 1, none⟩)) (by kernel_rfl) (by kernel_rfl) ?_
      refine ks (v := .int .i64 0) HS 1 rfl (1) [.int .i64 0] (by kernel_rfl) (by kernel_rfl) (by kernel_rfl) (by kernel_rfl) (by kernel_rfl) (one_ (by kernel_rfl)) (Nat.le_of_ble_eq_true rfl) rfl ?_
      intro W15 H_
      replace HS : St W M W15 [row (some ⟨g8, 0, none⟩) m m (ci .i64 q2) 3 1, blk g ((.slice (some ⟨g8, 0, none⟩) m m) :: (.int .i64 0) :: (.int .i64 (n : Int)) :: rest) tb, row A bs.length c (ci .i64 bs) 3 1, row (some ⟨g5, 0, none⟩) ys.length d (ci .i64 ys) 3 1] := H_
      clear H_
      refine wpList_nil ?_
      refine x_then ?_
      refine wp_seq ?_
      subst q2l
      have hqg := hq.grow (by omega) q2e (by omega) (by omega)
      refine rg_still HS 21 (by kernel_rfl) (by kernel_rfl) ?_
      intro W16 H_ HK_
      simp only [List.take_succ_cons, List.take_zero, List.drop_succ_cons, List.drop_zero]
      replace HS : St W M W16 [row (some ⟨g8, 0, none⟩) q2.length q2.length (ci .i64 q2) 3 1, blk g ((.slice (some ⟨g8, 0, none⟩) q2.length q2.length) :: (.int .i64 0) :: (.int .i64 (n : Int)) :: rest) tb, row A bs.length c (ci .i64 bs) 3 1, row (some ⟨g5, 0, none⟩) ys.length d (ci .i64 ys) 3 1] := H_
      clear H_
      clear HK_
      refine qs (.pointer (some ⟨g, 0, none⟩)) (by kernel_rfl) (by kernel_rfl) ?_
      refine qs (.pointer (some ⟨g, 0, none⟩)) (by kernel_rfl) (by kernel_rfl) ?_
      refine qs (.pointer (some ⟨g, 0, none⟩)) (by kernel_rfl) (by kernel_rfl) ?_
      refine qs (.slice (some ⟨g8, 0, none⟩) q2.length q2.length) (by kernel_rfl) (R_load (p := ⟨g, 0, none⟩) (by kernel_rfl) (by kernel_rfl) (by kernel_rfl) (HS.cell (i := 1) (j := 0) rfl rfl)) ?_
      refine qs (.pointer (some ⟨g, 0, none⟩)) (by kernel_rfl) (by kernel_rfl) ?_
      refine qs (.pointer (some ⟨g, 0, none⟩)) (by kernel_rfl) (by kernel_rfl) ?_
      refine qs (.pointer (some ⟨g, 1, none⟩)) (by kernel_rfl) (by kernel_rfl) ?_
      refine qs (.int .i64 0) (by kernel_rfl) (R_load (p := ⟨g, 1, none⟩) (by kernel_rfl) (by kernel_rfl) (by kernel_rfl) (HS.cell (i := 1) (j := 1) rfl rfl)) ?_
      refine qs (.pointer (some ⟨g, 0, none⟩)) (by kernel_rfl) (by kernel_rfl) ?_
      refine qs (.pointer (some ⟨g, 0, none⟩)) (by kernel_rfl) (by kernel_rfl) ?_
      refine qs (.pointer (some ⟨g, 2, none⟩)) (by kernel_rfl) (by kernel_rfl) ?_
      refine qs (.int .i64 (n : Int)) (by kernel_rfl) (R_load (p := ⟨g, 2, none⟩) (by kernel_rfl) (by kernel_rfl) (by kernel_rfl) (HS.cell (i := 1) (j := 2) rfl rfl)) ?_
      refine qs (.int .i64 (0 + (n : Int))) (by kernel_rfl) (R_int (by kernel_rfl) (w64 (by omega))) ?_
      refine qs (.pointer (some ⟨g, 0, none⟩)) (by kernel_rfl) (by kernel_rfl) ?_
      refine qs (.pointer (some ⟨g, 0, none⟩)) (by kernel_rfl) (by kernel_rfl) ?_
      refine qs (.pointer (some ⟨g, 0, none⟩)) (by kernel_rfl) (by kernel_rfl) ?_
      refine qs (.slice (some ⟨g8, 0, none⟩) q2.length q2.length) (by kernel_rfl) (R_load (p := ⟨g, 0, none⟩) (by kernel_rfl) (by kernel_rfl) (by kernel_rfl) (HS.cell (i := 1) (j := 0) rfl rfl)) ?_
      refine qs (.int .i64 (q2.length : Int)) (by kernel_rfl) (by kernel_rfl) ?_
      obtain ⟨rm, rm_⟩ : ∃ z_ : Nat, z_ = (0 + n) % q2.length := ⟨_, rfl⟩
      have rml : rm < q2.length := by rw [rm_]; exact Nat.mod_lt _ (by omega)
      refine qs (.int .i64 (rm : Int)) (by kernel_rfl) (R_eq (R_rem (i := 0 + n) (j := q2.length) (by kernel_rfl) (by kernel_rfl) (by omega) (by omega)) (by rw [← rm_])) ?_
      refine qs (.int .i64 (rdI ys i)) (by kernel_rfl) (by kernel_rfl) ?_
      refine qs (.pointer (some ⟨g8, (rm : Int).toNat, none⟩)) (by kernel_rfl) (R_index1 (k := .i64) (g := g8) (n := q2.length) (c := q2.length) (i := (rm : Int)) (by kernel_rfl) (by kernel_rfl) Try.underlying49 (by kernel_rfl) (by omega) (by omega)) ?_
      refine wpStill_nil ?_
      refine kr (v := .int .i64 (rdI ys i)) HS 0 rfl ((rm : Int).toNat) [.int .i64 (rdI ys i)] (by kernel_rfl) (by kernel_rfl) (by kernel_rfl) (by kernel_rfl) (by kernel_rfl) (one_ (by kernel_rfl)) (by rw [ci_len]; first | omega | (simp only [List.length_singleton]; omega)) rfl ?_
      intro W17 H_
      obtain ⟨xs18, xs18_⟩ : ∃ z_ : List Int, z_ = (q2).set (rm : Int).toNat (rdI ys i) := ⟨_, rfl⟩
      replace HS : St W M W17 [row (some ⟨g8, 0, none⟩) q2.length q2.length (ci .i64 xs18) 3 1, blk g ((.slice (some ⟨g8, 0, none⟩) q2.length q2.length) :: (.int .i64 0) :: (.int .i64 (n : Int)) :: rest) tb, row A bs.length c (ci .i64 bs) 3 1, row (some ⟨g5, 0, none⟩) ys.length d (ci .i64 ys) 3 1] := H_.cast_ (by rw [xs18_, ← ci_set]; rfl)
      clear H_
      have xs18l : xs18.length = q2.length := by rw [xs18_, List.length_set]; first | done | omega
      refine wpList_nil ?_
      refine x_then ?_
      refine wp_region_lit ?_
      refine ql (.pointer (some ⟨g, 0, none⟩)) (by kernel_rfl) (by kernel_rfl) ?_
      refine ql (.pointer (some ⟨g, 0, none⟩)) (by kernel_rfl) (by kernel_rfl) ?_
      refine ql (.pointer (some ⟨g, 2, none⟩)) (by kernel_rfl) (by kernel_rfl) ?_
      refine ql (.int .i64 (n : Int)) (by kernel_rfl) (R_load (p := ⟨g, 2, none⟩) (by kernel_rfl) (by kernel_rfl) (by kernel_rfl) (HS.cell (i := 1) (j := 2) rfl rfl)) ?_
      refine ql (.int .i64 ((n : Int) + 1)) (by kernel_rfl) (R_int (by kernel_rfl) (w64 (by omega))) ?_
      refine ql (.pointer (some ⟨g, 0, none⟩)) (by kernel_rfl) (by kernel_rfl) ?_
      refine ql (.pointer (some ⟨g, 2, none⟩)) (by kernel_rfl) (by kernel_rfl) ?_
      refine ks (v := .int .i64 ((n : Int) + 1)) HS 1 rfl (2) [.int .i64 ((n : Int) + 1)] (by kernel_rfl) (by kernel_rfl) (by kernel_rfl) (by kernel_rfl) (by kernel_rfl) (one_ (by kernel_rfl)) (Nat.le_of_ble_eq_true rfl) rfl ?_
      intro W19 H_
      replace HS : St W M W19 [row (some ⟨g8, 0, none⟩) q2.length q2.length (ci .i64 xs18) 3 1, blk g ((.slice (some ⟨g8, 0, none⟩) q2.length q2.length) :: (.int .i64 0) :: (.int .i64 ((n : Int) + 1)) :: rest) tb, row A bs.length c (ci .i64 bs) 3 1, row (some ⟨g5, 0, none⟩) ys.length d (ci .i64 ys) 3 1] := H_
      clear H_
      refine wpList_nil ?_
      refine x_inb ?_
      refine x_then ?_
      refine wp_region_lit ?_
      refine ql (.int .i64 (i + 1)) (by kernel_rfl) (R_int (by kernel_rfl) (w64 (by omega))) ?_
      refine ql (.int .i64 (i + 1)) (by kernel_rfl) (by kernel_rfl) ?_
      refine wpList_nil ?_
      replace HS : St W M W19 [blk g ((.slice (some ⟨g8, 0, none⟩) q2.length q2.length) :: (.int .i64 0) :: (.int .i64 ((n : Int) + 1)) :: rest) tb, row (some ⟨g8, 0, none⟩) q2.length q2.length (ci .i64 xs18) 3 1, row (some ⟨g5, 0, none⟩) ys.length d (ci .i64 ys) 3 1] := St.tail (F := [row A bs.length c (ci .i64 bs) 3 1]) (HS.perm (perm_ [2, 1, 0, 3] (by kernel_rfl) rfl))
      have hn2 : (n : Int) + 1 = ((n + 1 : Nat) : Int) := by omega
      rw [hn2] at HS
      rw [← xs18l] at HS
      have hqp := hqg.push (v := rdI ys i) (by omega) (q := xs18) (by rw [xs18_, ← rm_]; rfl)
      rw [List.append_assoc, ← take_rd (xs := ys) i0 (by omega)] at hqp
      refine x_then ?_
      exact ⟨ys.length - (i + 1).toNat, by omega, (fun k_ : Nat => List.getD ((.pointer (some ⟨g, 0, none⟩)) :: (.slice (some ⟨g5, 0, none⟩) ys.length d) :: undef :: undef :: undef :: (.int .i64 (rdI ys i)) :: (.slice (some ⟨g8, 0, none⟩) q2.length q2.length) :: (.int .i64 ((bs.length - f : Nat) : Int)) :: (.pointer (some ⟨g, 0, none⟩)) :: (.bool false) :: (.slice (some ⟨g5, 0, none⟩) ys.length d) :: (.int .i64 (ys.length : Int)) :: (.int .i64 (i + 1)) :: (.bool true) :: (.pointer (some ⟨g5, i.toNat, none⟩)) :: (.int .i64 (rdI ys i)) :: (.pointer (some ⟨g, 0, none⟩)) :: (.pointer (some ⟨g, 0, none⟩)) :: (.pointer (some ⟨g, 2, none⟩)) :: (.int .i64 (n : Int)) :: (.pointer (some ⟨g, 0, none⟩)) :: (.pointer (some ⟨g, 0, none⟩)) :: (.pointer (some ⟨g, 0, none⟩)) :: (.slice A bs.length c) :: (.int .i64 (bs.length : Int)) :: (.bool true) :: (.pointer (some ⟨g, 0, none⟩)) :: (.pointer (some ⟨g, 0, none⟩)) :: (.pointer (some ⟨g, 2, none⟩)) :: (.int .i64 (n : Int)) :: (.int .i64 (2 * (n : Int))) :: (.int .i64 (q2.length : Int)) :: (.slice (some ⟨g8, 0, none⟩) q2.length q2.length) :: (.slice (some ⟨g8, 0, none⟩) q2.length q2.length) :: (.pointer (some ⟨g, 0, none⟩)) :: (.pointer (some ⟨g, 0, none⟩)) :: (.pointer (some ⟨g, 0, none⟩)) :: (.slice A bs.length c) :: (.pointer (some ⟨g, 0, none⟩)) :: (.pointer (some ⟨g, 0, none⟩)) :: (.pointer (some ⟨g, 1, none⟩)) :: (.int .i64 (f : Int)) :: (.slice (cutA A c f 1) (bs.length - f) (c - f)) :: (.int .i64 ((bs.length - f : Nat) : Int)) :: (.slice (some ⟨g8, 0, none⟩) q2.length q2.length) :: (.int .i64 ((bs.length - f : Nat) : Int)) :: (.slice (some ⟨g8, (bs.length - f), none⟩) (q2.length - (bs.length - f)) (q2.length - (bs.length - f))) :: (.pointer (some ⟨g, 0, none⟩)) :: (.pointer (some ⟨g, 0, none⟩)) :: (.pointer (some ⟨g, 0, none⟩)) :: (.slice A bs.length c) :: (.pointer (some ⟨g, 0, none⟩)) :: (.pointer (some ⟨g, 0, none⟩)) :: (.pointer (some ⟨g, 1, none⟩)) :: (.int .i64 (f : Int)) :: (.slice A f c) :: (.int .i64 (f : Int)) :: (.pointer (some ⟨g, 0, none⟩)) :: (.pointer (some ⟨g, 0, none⟩)) :: (.slice (some ⟨g8, 0, none⟩) q2.length q2.length) :: (.pointer (some ⟨g, 0, none⟩)) :: (.pointer (some ⟨g, 0, none⟩)) :: (.pointer (some ⟨g, 0, none⟩)) :: (.pointer (some ⟨g, 1, none⟩)) :: (.pointer (some ⟨g, 0, none⟩)) :: (.pointer (some ⟨g, 0, none⟩)) :: (.pointer (some ⟨g, 0, none⟩)) :: (.slice (some ⟨g8, 0, none⟩) q2.length q2.length) :: (.pointer (some ⟨g, 0, none⟩)) :: (.pointer (some ⟨g, 0, none⟩)) :: (.pointer (some ⟨g, 1, none⟩)) :: (.int .i64 0) :: (.pointer (some ⟨g, 0, none⟩)) :: (.pointer (some ⟨g, 0, none⟩)) :: (.pointer (some ⟨g, 2, none⟩)) :: (.int .i64 (n : Int)) :: (.int .i64 (0 + (n : Int))) :: (.pointer (some ⟨g, 0, none⟩)) :: (.pointer (some ⟨g, 0, none⟩)) :: (.pointer (some ⟨g, 0, none⟩)) :: (.slice (some ⟨g8, 0, none⟩) q2.length q2.length) :: (.int .i64 (q2.length : Int)) :: (.int .i64 (rm : Int)) :: (.int .i64 (rdI ys i)) :: (.pointer (some ⟨g8, (rm : Int).toNat, none⟩)) :: (.pointer (some ⟨g, 0, none⟩)) :: (.pointer (some ⟨g, 0, none⟩)) :: (.pointer (some ⟨g, 2, none⟩)) :: (.int .i64 (n : Int)) :: (.int .i64 ((n : Int) + 1)) :: (.pointer (some ⟨g, 0, none⟩)) :: (.pointer (some ⟨g, 2, none⟩)) :: (.int .i64 (i + 1)) :: []) k_ undef), i + 1, some ⟨g8, 0, none⟩, xs18.length, 0, (n + 1), xs18, congrArg Fr (by kernel_rfl), rfl, by omega, by omega, hqp, HS⟩
    · skip
      refine ql (.bool false) (by kernel_rfl) (R_beq (b := ((n : Int) == (bs.length : Int))) (by kernel_rfl) (beq_f (hc7))) ?_
      refine wpList_nil ?_
      refine x_then ?_
      refine wp_cond_false (by kernel_rfl) ?_
      refine wp_skip ?_
      refine x_then ?_
      refine wp_seq ?_
      refine rg_still HS 21 (by kernel_rfl) (by kernel_rfl) ?_
      intro W20 H_ HK_
      simp only [List.take_succ_cons, List.take_zero, List.drop_succ_cons, List.drop_zero]
      replace HS : St W M W20 [blk g ((.slice A bs.length c) :: (.int .i64 (f : Int)) :: (.int .i64 (n : Int)) :: rest) tb, row A bs.length c (ci .i64 bs) 3 1, row (some ⟨g5, 0, none⟩) ys.length d (ci .i64 ys) 3 1] := H_
      clear H_
      clear HK_
      refine qs (.pointer (some ⟨g, 0, none⟩)) (by kernel_rfl) (by kernel_rfl) ?_
      refine qs (.pointer (some ⟨g, 0, none⟩)) (by kernel_rfl) (by kernel_rfl) ?_
      refine qs (.pointer (some ⟨g, 0, none⟩)) (by kernel_rfl) (by kernel_rfl) ?_
      refine qs (.slice A bs.length c) (by kernel_rfl) (R_load (p := ⟨g, 0, none⟩) (by kernel_rfl) (by kernel_rfl) (by kernel_rfl) (HS.cell (i := 0) (j := 0) rfl rfl)) ?_
      refine qs (.pointer (some ⟨g, 0, none⟩)) (by kernel_rfl) (by kernel_rfl) ?_
      refine qs (.pointer (some ⟨g, 0, none⟩)) (by kernel_rfl) (by kernel_rfl) ?_
      refine qs (.pointer (some ⟨g, 1, none⟩)) (by kernel_rfl) (by kernel_rfl) ?_
      refine qs (.int .i64 (f : Int)) (by kernel_rfl) (R_load (p := ⟨g, 1, none⟩) (by kernel_rfl) (by kernel_rfl) (by kernel_rfl) (HS.cell (i := 0) (j := 1) rfl rfl)) ?_
      refine qs (.pointer (some ⟨g, 0, none⟩)) (by kernel_rfl) (by kernel_rfl) ?_
      refine qs (.pointer (some ⟨g, 0, none⟩)) (by kernel_rfl) (by kernel_rfl) ?_
      refine qs (.pointer (some ⟨g, 2, none⟩)) (by kernel_rfl) (by kernel_rfl) ?_
      refine qs (.int .i64 (n : Int)) (by kernel_rfl) (R_load (p := ⟨g, 2, none⟩) (by kernel_rfl) (by kernel_rfl) (by kernel_rfl) (HS.cell (i := 0) (j := 2) rfl rfl)) ?_
      refine qs (.int .i64 ((f : Int) + (n : Int))) (by kernel_rfl) (R_int (by kernel_rfl) (w64 (by omega))) ?_
      refine qs (.pointer (some ⟨g, 0, none⟩)) (by kernel_rfl) (by kernel_rfl) ?_
      refine qs (.pointer (some ⟨g, 0, none⟩)) (by kernel_rfl) (by kernel_rfl) ?_
      refine qs (.pointer (some ⟨g, 0, none⟩)) (by kernel_rfl) (by kernel_rfl) ?_
      refine qs (.slice A bs.length c) (by kernel_rfl) (R_load (p := ⟨g, 0, none⟩) (by kernel_rfl) (by kernel_rfl) (by kernel_rfl) (HS.cell (i := 0) (j := 0) rfl rfl)) ?_
      refine qs (.int .i64 (bs.length : Int)) (by kernel_rfl) (by kernel_rfl) ?_
      obtain ⟨rm, rm_⟩ : ∃ z_ : Nat, z_ = (f + n) % bs.length := ⟨_, rfl⟩
      have rml : rm < bs.length := by rw [rm_]; exact Nat.mod_lt _ (by omega)
      refine qs (.int .i64 (rm : Int)) (by kernel_rfl) (R_eq (R_rem (i := f + n) (j := bs.length) (by kernel_rfl) (by kernel_rfl) (by omega) (by omega)) (by rw [← rm_])) ?_
      refine qs (.int .i64 (rdI ys i)) (by kernel_rfl) (by kernel_rfl) ?_
      obtain ⟨g21, rfl⟩ := St.rsome HS (i := 1) rfl (by omega)
      refine qs (.pointer (some ⟨g21, (rm : Int).toNat, none⟩)) (by kernel_rfl) (R_index1 (k := .i64) (g := g21) (n := bs.length) (c := c) (i := (rm : Int)) (by kernel_rfl) (by kernel_rfl) Try.underlying49 (by kernel_rfl) (by omega) (by omega)) ?_
      refine wpStill_nil ?_
      refine kr (v := .int .i64 (rdI ys i)) HS 1 rfl ((rm : Int).toNat) [.int .i64 (rdI ys i)] (by kernel_rfl) (by kernel_rfl) (by kernel_rfl) (by kernel_rfl) (by kernel_rfl) (one_ (by kernel_rfl)) (by rw [ci_len]; first | omega | (simp only [List.length_singleton]; omega)) rfl ?_
      intro W22 H_
      obtain ⟨xs23, xs23_⟩ : ∃ z_ : List Int, z_ = (bs).set (rm : Int).toNat (rdI ys i) := ⟨_, rfl⟩
      replace HS : St W M W22 [blk g ((.slice (some ⟨g21, 0, none⟩) bs.length c) :: (.int .i64 (f : Int)) :: (.int .i64 (n : Int)) :: rest) tb, row (some ⟨g21, 0, none⟩) bs.length c (ci .i64 xs23) 3 1, row (some ⟨g5, 0, none⟩) ys.length d (ci .i64 ys) 3 1] := H_.cast_ (by rw [xs23_, ← ci_set]; rfl)
      clear H_
      have xs23l : xs23.length = bs.length := by rw [xs23_, List.length_set]; first | done | omega
      refine wpList_nil ?_
      refine x_then ?_
      refine wp_region_lit ?_
      refine ql (.pointer (some ⟨g, 0, none⟩)) (by kernel_rfl) (by kernel_rfl) ?_
      refine ql (.pointer (some ⟨g, 0, none⟩)) (by kernel_rfl) (by kernel_rfl) ?_
      refine ql (.pointer (some ⟨g, 2, none⟩)) (by kernel_rfl) (by kernel_rfl) ?_
      refine ql (.int .i64 (n : Int)) (by kernel_rfl) (R_load (p := ⟨g, 2, none⟩) (by kernel_rfl) (by kernel_rfl) (by kernel_rfl) (HS.cell (i := 0) (j := 2) rfl rfl)) ?_
      refine ql (.int .i64 ((n : Int) + 1)) (by kernel_rfl) (R_int (by kernel_rfl) (w64 (by omega))) ?_
      refine ql (.pointer (some ⟨g, 0, none⟩)) (by kernel_rfl) (by kernel_rfl) ?_
      refine ql (.pointer (some ⟨g, 2, none⟩)) (by kernel_rfl) (by kernel_rfl) ?_
      refine ks (v := .int .i64 ((n : Int) + 1)) HS 0 rfl (2) [.int .i64 ((n : Int) + 1)] (by kernel_rfl) (by kernel_rfl) (by kernel_rfl) (by kernel_rfl) (by kernel_rfl) (one_ (by kernel_rfl)) (Nat.le_of_ble_eq_true rfl) rfl ?_
      intro W24 H_
      replace HS : St W M W24 [blk g ((.slice (some ⟨g21, 0, none⟩) bs.length c) :: (.int .i64 (f : Int)) :: (.int .i64 ((n : Int) + 1)) :: rest) tb, row (some ⟨g21, 0, none⟩) bs.length c (ci .i64 xs23) 3 1, row (some ⟨g5, 0, none⟩) ys.length d (ci .i64 ys) 3 1] := H_
      clear H_
      refine wpList_nil ?_
      refine x_inb ?_
      refine x_then ?_
      refine wp_region_lit ?_
      refine ql (.int .i64 (i + 1)) (by kernel_rfl) (R_int (by kernel_rfl) (w64 (by omega))) ?_
      refine ql (.int .i64 (i + 1)) (by kernel_rfl) (by kernel_rfl) ?_
      refine wpList_nil ?_
      have hn2 : (n : Int) + 1 = ((n + 1 : Nat) : Int) := by omega
      rw [hn2] at HS
      rw [← xs23l] at HS
      have hqp := hq.push (v := rdI ys i) (by omega) (q := xs23) (by rw [xs23_, ← rm_]; rfl)
      rw [List.append_assoc, ← take_rd (xs := ys) i0 (by omega)] at hqp
      refine x_then ?_
      exact ⟨ys.length - (i + 1).toNat, by omega, (fun k_ : Nat => List.getD ((.pointer (some ⟨g, 0, none⟩)) :: (.slice (some ⟨g5, 0, none⟩) ys.length d) :: undef :: undef :: undef :: (.int .i64 (rdI ys i)) :: ((J1 6)) :: ((J1 7)) :: (.pointer (some ⟨g, 0, none⟩)) :: (.bool false) :: (.slice (some ⟨g5, 0, none⟩) ys.length d) :: (.int .i64 (ys.length : Int)) :: (.int .i64 (i + 1)) :: (.bool true) :: (.pointer (some ⟨g5, i.toNat, none⟩)) :: (.int .i64 (rdI ys i)) :: (.pointer (some ⟨g, 0, none⟩)) :: (.pointer (some ⟨g, 0, none⟩)) :: (.pointer (some ⟨g, 2, none⟩)) :: (.int .i64 (n : Int)) :: (.pointer (some ⟨g, 0, none⟩)) :: (.pointer (some ⟨g, 0, none⟩)) :: (.pointer (some ⟨g, 0, none⟩)) :: (.slice (some ⟨g21, 0, none⟩) bs.length c) :: (.int .i64 (bs.length : Int)) :: (.bool false) :: ((J1 26)) :: ((J1 27)) :: ((J1 28)) :: ((J1 29)) :: ((J1 30)) :: ((J1 31)) :: ((J1 32)) :: ((J1 33)) :: ((J1 34)) :: ((J1 35)) :: ((J1 36)) :: ((J1 37)) :: ((J1 38)) :: ((J1 39)) :: ((J1 40)) :: ((J1 41)) :: ((J1 42)) :: ((J1 43)) :: ((J1 44)) :: ((J1 45)) :: ((J1 46)) :: ((J1 47)) :: ((J1 48)) :: ((J1 49)) :: ((J1 50)) :: ((J1 51)) :: ((J1 52)) :: ((J1 53)) :: ((J1 54)) :: ((J1 55)) :: ((J1 56)) :: ((J1 57)) :: ((J1 58)) :: ((J1 59)) :: ((J1 60)) :: ((J1 61)) :: ((J1 62)) :: ((J1 63)) :: (.pointer (some ⟨g, 0, none⟩)) :: (.pointer (some ⟨g, 0, none⟩)) :: (.pointer (some ⟨g, 0, none⟩)) :: (.slice (some ⟨g21, 0, none⟩) bs.length c) :: (.pointer (some ⟨g, 0, none⟩)) :: (.pointer (some ⟨g, 0, none⟩)) :: (.pointer (some ⟨g, 1, none⟩)) :: (.int .i64 (f : Int)) :: (.pointer (some ⟨g, 0, none⟩)) :: (.pointer (some ⟨g, 0, none⟩)) :: (.pointer (some ⟨g, 2, none⟩)) :: (.int .i64 (n : Int)) :: (.int .i64 ((f : Int) + (n : Int))) :: (.pointer (some ⟨g, 0, none⟩)) :: (.pointer (some ⟨g, 0, none⟩)) :: (.pointer (some ⟨g, 0, none⟩)) :: (.slice (some ⟨g21, 0, none⟩) bs.length c) :: (.int .i64 (bs.length : Int)) :: (.int .i64 (rm : Int)) :: (.int .i64 (rdI ys i)) :: (.pointer (some ⟨g21, (rm : Int).toNat, none⟩)) :: (.pointer (some ⟨g, 0, none⟩)) :: (.pointer (some ⟨g, 0, none⟩)) :: (.pointer (some ⟨g, 2, none⟩)) :: (.int .i64 (n : Int)) :: (.int .i64 ((n : Int) + 1)) :: (.pointer (some ⟨g, 0, none⟩)) :: (.pointer (some ⟨g, 2, none⟩)) :: (.int .i64 (i + 1)) :: []) k_ undef), i + 1, some ⟨g21, 0, none⟩, c, f, (n + 1), xs23, congrArg Fr (by kernel_rfl), rfl, by omega, by omega, hqp, HS⟩
  · skip
    refine ql (.bool false) (by kernel_rfl) (R_nbool (p := i < (ys.length : Int)) (by kernel_rfl) (hc4)) ?_
    refine wpList_nil ?_
    refine x_then ?_
    refine wp_seq ?_
    refine wp_cond_false (by kernel_rfl) ?_
    refine wp_exit ?_
    refine x_thenE ?_
    refine x_thenE ?_
    refine x_hit ?_
    refine end_ (.tuple #[]) (by kernel_rfl) ?_
    replace HS : St W M W3 [blk g ((.slice A bs.length c) :: (.int .i64 (f : Int)) :: (.int .i64 (n : Int)) :: rest) tb, row A bs.length c (ci .i64 bs) 3 1] := St.tail (F := [row B ys.length d (ci .i64 ys) 3 1]) (HS.perm (perm_ [2, 0, 1] (by kernel_rfl) rfl))
    rw [List.take_of_length_le (by omega)] at hq
    exact ⟨_, _, f, n, bs, rfl, HS, hq⟩

set_option maxRecDepth 100000 in
set_option maxHeartbeats 1000000 in
theorem qlenS (g n : Nat) (W : World) (hc : W.cell? ⟨g, 2, none⟩ = some (.int .i64 (n : Int))) : Calls Try.prog 70 #[.pointer (some ⟨g, 0, none⟩)] W fun e W' => e = .returned (.int .i64 (n : Int)) ∧ St W (owns []) W' [] := by
  have HS : St W (owns []) W [] := St.start W _
  refine calls_enter [.pointer (some ⟨g, 0, none⟩), undef, undef, undef, undef, undef, undef, undef, undef] Try.func70 rfl (by kernel_rfl) ?_
  refine wp_seq ?_
  refine wp_region_lit ?_
  refine ql (.int .i64 0) (by kernel_rfl) (by kernel_rfl) ?_
  refine wpList_nil ?_
  refine x_then ?_
  refine wp_seq ?_
  refine wp_seq ?_
  refine wp_region_lit ?_
  refine ql (.pointer (some ⟨g, 0, none⟩)) (by kernel_rfl) (by kernel_rfl) ?_
  refine ql (.bool false) (by kernel_rfl) (by kernel_rfl) ?_
  refine wpList_nil ?_
  refine x_then ?_
  refine wp_cond_false (by kernel_rfl) ?_
  refine wp_skip ?_
  refine x_then ?_
  refine wp_seq ?_
  refine wp_region_lit ?_
  refine ql (.pointer (some ⟨g, 0, none⟩)) (by kernel_rfl) (by kernel_rfl) ?_
  refine ql (.pointer (some ⟨g, 0, none⟩)) (by kernel_rfl) (by kernel_rfl) ?_
  refine ql (.pointer (some ⟨g, 2, none⟩)) (by kernel_rfl) (by kernel_rfl) ?_
  refine ql (.int .i64 (n : Int)) (by kernel_rfl) (R_load (p := ⟨g, 2, none⟩) (by kernel_rfl) (by kernel_rfl) (by kernel_rfl) (HS.old0 hc)) ?_
  refine ql (.int .i64 (n : Int)) (by kernel_rfl) (by kernel_rfl) ?_
  refine wpList_nil ?_
  refine x_then ?_
  refine wp_ret ?_
  refine ret_ (.int .i64 (n : Int)) (by kernel_rfl) ?_
  exact ⟨rfl, HS⟩

set_option maxRecDepth 100000 in
set_option maxHeartbeats 1000000 in
theorem qpopS_nil (g tb : Nat) (rest : List Value) (A : Option Addr) (c f n : Nat) (bs xs : List ByteArray) (W : World) (M : Nat → Prop) (HS : St W M W [blk g ((.slice A bs.length c) :: (.int .i64 (f : Int)) :: (.int .i64 (n : Int)) :: rest) tb, row A bs.length c (cz bs) 9 1]) (hq : RQS bs f n xs) (hn : xs = []) : Calls Try.prog 68 #[.pointer (some ⟨g, 0, none⟩)] W fun e W' => e = .returned (.tuple #[.string ByteArray.empty, .bool false]) ∧ St W M W' [blk g ((.slice A bs.length c) :: (.int .i64 (f : Int)) :: (.int .i64 (n : Int)) :: rest) tb, row A bs.length c (cz bs) 9 1] := by
  have hlen := hq.len
  have hqn := hq.hn
  have hqb := hq.hb
  have hqf := hq.hf
  have hnl : xs.length = 0 := by rw [hn]; rfl
  refine calls_enter ((.pointer (some ⟨g, 0, none⟩)) :: undef :: undef :: undef :: undef :: undef :: undef :: undef :: undef :: undef :: undef :: undef :: undef :: undef :: undef :: undef :: undef :: undef :: undef :: undef :: undef :: undef :: undef :: undef :: undef :: undef :: undef :: undef :: undef :: undef :: undef :: undef :: undef :: undef :: undef :: undef :: undef :: undef :: undef :: undef :: undef :: undef :: undef :: undef :: undef :: undef :: undef :: undef :: undef :: undef :: undef :: undef :: []) Try.func68 rfl (by kernel_rfl) ?_
  refine wp_seq ?_
  refine wp_region_lit ?_
  refine ql (.string (⟨#[]⟩)) (by kernel_rfl) (by kernel_rfl) ?_
  refine ql (.bool false) (by kernel_rfl) (by kernel_rfl) ?_
  refine wpList_nil ?_
  refine x_then ?_
  refine wp_seq ?_
  refine wp_region_lit ?_
  refine ql (.string (⟨#[]⟩)) (by kernel_rfl) (by kernel_rfl) ?_
  refine wpList_nil ?_
  refine x_then ?_
  refine wp_seq ?_
  refine wp_seq ?_
  refine wp_region_lit ?_
  refine ql (.pointer (some ⟨g, 0, none⟩)) (by kernel_rfl) (by kernel_rfl) ?_
  refine qc (f := 70) (args := #[.pointer (some ⟨g, 0, none⟩)]) (by kernel_rfl) (R_call #[.pointer (some ⟨g, 0, none⟩)] Try.func70 (by kernel_rfl) (by kernel_rfl) (by kernel_rfl)) ?_
  refine (qlenS g n _ (HS.cell (i := 0) (j := 2) rfl rfl)).mono ?_
  rintro e W1 ⟨rfl, H_⟩
  refine ⟨_, rfl, ?_⟩
  replace HS : St W M W1 [blk g ((.slice A bs.length c) :: (.int .i64 (f : Int)) :: (.int .i64 (n : Int)) :: rest) tb, row A bs.length c (cz bs) 9 1] := HS.join (F := []) (G := []) H_
  clear H_
  refine ql (.bool true) (by kernel_rfl) (R_beq (b := ((n : Int) == (0 : Int))) (by kernel_rfl) (beq_t (by omega))) ?_
  refine wpList_nil ?_
  refine x_then ?_
  refine wp_cond_true (by kernel_rfl) ?_
  refine wp_seq ?_
  refine wp_region_lit ?_
  refine ql (.string (⟨#[]⟩)) (by kernel_rfl) (by kernel_rfl) ?_
  refine ql (.string (⟨#[]⟩)) (by kernel_rfl) (by kernel_rfl) ?_
  refine ql (.bool false) (by kernel_rfl) (by kernel_rfl) ?_
  refine wpList_nil ?_
  refine x_then ?_
  refine wp_ret ?_
  refine x_thenR ?_
  refine ret_ (.tuple #[.string (⟨#[]⟩), .bool false]) (by kernel_rfl) ?_
  exact ⟨rfl, HS⟩

set_option maxRecDepth 100000 in
set_option maxHeartbeats 1000000 in
theorem qpopS_some (g tb : Nat) (rest : List Value) (A : Option Addr) (c f n : Nat) (bs xs : List ByteArray) (W : World) (M : Nat → Prop) (HS : St W M W [blk g ((.slice A bs.length c) :: (.int .i64 (f : Int)) :: (.int .i64 (n : Int)) :: rest) tb, row A bs.length c (cz bs) 9 1]) (hq : RQS bs f n xs) (hn : 0 < xs.length) : Calls Try.prog 68 #[.pointer (some ⟨g, 0, none⟩)] W fun e W' => ∃ (A' : Option Addr) (c' f' : Nat) (bs' : List ByteArray), e = .returned (.tuple #[.string (rdS xs 0), .bool true]) ∧ St W M W' [blk g ((.slice A' bs'.length c') :: (.int .i64 (f' : Int)) :: (.int .i64 ((n - 1 : Nat) : Int)) :: rest) tb, row A' bs'.length c' (cz bs') 9 1] ∧ RQS bs' f' (n - 1) xs.tail := by
  have hlen := hq.len
  have hqn := hq.hn
  have hqb := hq.hb
  have hqf := hq.hf
  refine calls_enter ((.pointer (some ⟨g, 0, none⟩)) :: undef :: undef :: undef :: undef :: undef :: undef :: undef :: undef :: undef :: undef :: undef :: undef :: undef :: undef :: undef :: undef :: undef :: undef :: undef :: undef :: undef :: undef :: undef :: undef :: undef :: undef :: undef :: undef :: undef :: undef :: undef :: undef :: undef :: undef :: undef :: undef :: undef :: undef :: undef :: undef :: undef :: undef :: undef :: undef :: undef :: undef :: undef :: undef :: undef :: undef :: undef :: []) Try.func68 rfl (by kernel_rfl) ?_
  refine wp_seq ?_
  refine wp_region_lit ?_
  refine ql (.string (⟨#[]⟩)) (by kernel_rfl) (by kernel_rfl) ?_
  refine ql (.bool false) (by kernel_rfl) (by kernel_rfl) ?_
  refine wpList_nil ?_
  refine x_then ?_
  refine wp_seq ?_
  refine wp_region_lit ?_
  refine ql (.string (⟨#[]⟩)) (by kernel_rfl) (by kernel_rfl) ?_
  refine wpList_nil ?_
  refine x_then ?_
  refine wp_seq ?_
  refine wp_seq ?_
  refine wp_region_lit ?_
  refine ql (.pointer (some ⟨g, 0, none⟩)) (by kernel_rfl) (by kernel_rfl) ?_
  refine qc (f := 70) (args := #[.pointer (some ⟨g, 0, none⟩)]) (by kernel_rfl) (R_call #[.pointer (some ⟨g, 0, none⟩)] Try.func70 (by kernel_rfl) (by kernel_rfl) (by kernel_rfl)) ?_
  refine (qlenS g n _ (HS.cell (i := 0) (j := 2) rfl rfl)).mono ?_
  rintro e W1 ⟨rfl, H_⟩
  refine ⟨_, rfl, ?_⟩
  replace HS : St W M W1 [blk g ((.slice A bs.length c) :: (.int .i64 (f : Int)) :: (.int .i64 (n : Int)) :: rest) tb, row A bs.length c (cz bs) 9 1] := HS.join (F := []) (G := []) H_
  clear H_
  refine ql (.bool false) (by kernel_rfl) (R_beq (b := ((n : Int) == (0 : Int))) (by kernel_rfl) (beq_f (by omega))) ?_
  refine wpList_nil ?_
  refine x_then ?_
  refine wp_cond_false (by kernel_rfl) ?_
  refine wp_skip ?_
  refine x_then ?_
  refine wp_seq ?_
  refine rg_still HS 10 (by kernel_rfl) (by kernel_rfl) ?_
  intro W2 H_ HK_
  simp only [List.take_succ_cons, List.take_zero, List.drop_succ_cons, List.drop_zero]
  replace HS : St W M W2 [blk g ((.slice A bs.length c) :: (.int .i64 (f : Int)) :: (.int .i64 (n : Int)) :: rest) tb, row A bs.length c (cz bs) 9 1] := H_
  clear H_
  clear HK_
  refine qs (.pointer (some ⟨g, 0, none⟩)) (by kernel_rfl) (by kernel_rfl) ?_
  refine qs (.pointer (some ⟨g, 0, none⟩)) (by kernel_rfl) (by kernel_rfl) ?_
  refine qs (.pointer (some ⟨g, 0, none⟩)) (by kernel_rfl) (by kernel_rfl) ?_
  refine qs (.slice A bs.length c) (by kernel_rfl) (R_load (p := ⟨g, 0, none⟩) (by kernel_rfl) (by kernel_rfl) (by kernel_rfl) (HS.cell (i := 0) (j := 0) rfl rfl)) ?_
  refine qs (.pointer (some ⟨g, 0, none⟩)) (by kernel_rfl) (by kernel_rfl) ?_
  refine qs (.pointer (some ⟨g, 0, none⟩)) (by kernel_rfl) (by kernel_rfl) ?_
  refine qs (.pointer (some ⟨g, 1, none⟩)) (by kernel_rfl) (by kernel_rfl) ?_
  refine qs (.int .i64 (f : Int)) (by kernel_rfl) (R_load (p := ⟨g, 1, none⟩) (by kernel_rfl) (by kernel_rfl) (by kernel_rfl) (HS.cell (i := 0) (j := 1) rfl rfl)) ?_
  obtain ⟨g3, rfl⟩ := St.rsome HS (i := 1) rfl (by omega)
  refine qs (.pointer (some ⟨g3, (f : Int).toNat, none⟩)) (by kernel_rfl) (R_index1 (k := .i64) (g := g3) (n := bs.length) (c := c) (i := (f : Int)) (by kernel_rfl) (by kernel_rfl) Try.underlying93 (by kernel_rfl) (by omega) (by omega)) ?_
  refine qs (.string (rdS bs (f : Int))) (by kernel_rfl) (R_load (p := ⟨g3, (f : Int).toNat, none⟩) (by kernel_rfl) (by kernel_rfl) (by kernel_rfl) (HS.rcell (i := 1) rfl (cz_rd (i := (f : Int)) (by omega) (by omega)))) ?_
  refine wpStill_nil ?_
  refine ql (.string (rdS bs (f : Int))) (by kernel_rfl) (by kernel_rfl) ?_
  refine wpList_nil ?_
  refine x_then ?_
  refine wp_seq ?_
  refine rg_still HS 10 (by kernel_rfl) (by kernel_rfl) ?_
  intro W4 H_ HK_
  simp only [List.take_succ_cons, List.take_zero, List.drop_succ_cons, List.drop_zero]
  replace HS : St W M W4 [blk g ((.slice (some ⟨g3, 0, none⟩) bs.length c) :: (.int .i64 (f : Int)) :: (.int .i64 (n : Int)) :: rest) tb, row (some ⟨g3, 0, none⟩) bs.length c (cz bs) 9 1] := H_
  clear H_
  clear HK_
  refine qs (.pointer (some ⟨g, 0, none⟩)) (by kernel_rfl) (by kernel_rfl) ?_
  refine qs (.pointer (some ⟨g, 0, none⟩)) (by kernel_rfl) (by kernel_rfl) ?_
  refine qs (.pointer (some ⟨g, 0, none⟩)) (by kernel_rfl) (by kernel_rfl) ?_
  refine qs (.slice (some ⟨g3, 0, none⟩) bs.length c) (by kernel_rfl) (R_load (p := ⟨g, 0, none⟩) (by kernel_rfl) (by kernel_rfl) (by kernel_rfl) (HS.cell (i := 0) (j := 0) rfl rfl)) ?_
  refine qs (.pointer (some ⟨g, 0, none⟩)) (by kernel_rfl) (by kernel_rfl) ?_
  refine qs (.pointer (some ⟨g, 0, none⟩)) (by kernel_rfl) (by kernel_rfl) ?_
  refine qs (.pointer (some ⟨g, 1, none⟩)) (by kernel_rfl) (by kernel_rfl) ?_
  refine qs (.int .i64 (f : Int)) (by kernel_rfl) (R_load (p := ⟨g, 1, none⟩) (by kernel_rfl) (by kernel_rfl) (by kernel_rfl) (HS.cell (i := 0) (j := 1) rfl rfl)) ?_
  refine qs (.string (⟨#[]⟩)) (by kernel_rfl) (by kernel_rfl) ?_
  refine qs (.pointer (some ⟨g3, (f : Int).toNat, none⟩)) (by kernel_rfl) (R_index1 (k := .i64) (g := g3) (n := bs.length) (c := c) (i := (f : Int)) (by kernel_rfl) (by kernel_rfl) Try.underlying93 (by kernel_rfl) (by omega) (by omega)) ?_
  refine wpStill_nil ?_
  refine kr (v := .string (⟨#[]⟩)) HS 1 rfl ((f : Int).toNat) [.string (⟨#[]⟩)] (by kernel_rfl) (by kernel_rfl) (by kernel_rfl) (by kernel_rfl) (by kernel_rfl) (one_ (by kernel_rfl)) (by rw [cz_len]; first | omega | (simp only [List.length_singleton]; omega)) rfl ?_
  intro W5 H_
  obtain ⟨xs6, xs6_⟩ : ∃ z_ : List ByteArray, z_ = (bs).set (f : Int).toNat (⟨#[]⟩) := ⟨_, rfl⟩
  replace HS : St W M W5 [blk g ((.slice (some ⟨g3, 0, none⟩) bs.length c) :: (.int .i64 (f : Int)) :: (.int .i64 (n : Int)) :: rest) tb, row (some ⟨g3, 0, none⟩) bs.length c (cz xs6) 9 1] := H_.cast_ (by rw [xs6_, ← cz_set]; rfl)
  clear H_
  have xs6l : xs6.length = bs.length := by rw [xs6_, List.length_set]; first | done | omega
  refine wpList_nil ?_
  refine x_then ?_
  refine wp_seq ?_
  refine rg_still HS 14 (by kernel_rfl) (by kernel_rfl) ?_
  intro W7 H_ HK_
  simp only [List.take_succ_cons, List.take_zero, List.drop_succ_cons, List.drop_zero]
  replace HS : St W M W7 [blk g ((.slice (some ⟨g3, 0, none⟩) bs.length c) :: (.int .i64 (f : Int)) :: (.int .i64 (n : Int)) :: rest) tb, row (some ⟨g3, 0, none⟩) bs.length c (cz xs6) 9 1] := H_
  clear H_
  clear HK_
  refine qs (.pointer (some ⟨g, 0, none⟩)) (by kernel_rfl) (by kernel_rfl) ?_
  refine qs (.pointer (some ⟨g, 0, none⟩)) (by kernel_rfl) (by kernel_rfl) ?_
  refine qs (.pointer (some ⟨g, 0, none⟩)) (by kernel_rfl) (by kernel_rfl) ?_
  refine qs (.pointer (some ⟨g, 1, none⟩)) (by kernel_rfl) (by kernel_rfl) ?_
  refine qs (.int .i64 (f : Int)) (by kernel_rfl) (R_load (p := ⟨g, 1, none⟩) (by kernel_rfl) (by kernel_rfl) (by kernel_rfl) (HS.cell (i := 0) (j := 1) rfl rfl)) ?_
  refine qs (.int .i64 ((f : Int) + 1)) (by kernel_rfl) (R_int (by kernel_rfl) (w64 (by omega))) ?_
  refine qs (.pointer (some ⟨g, 0, none⟩)) (by kernel_rfl) (by kernel_rfl) ?_
  refine qs (.pointer (some ⟨g, 0, none⟩)) (by kernel_rfl) (by kernel_rfl) ?_
  refine qs (.pointer (some ⟨g, 0, none⟩)) (by kernel_rfl) (by kernel_rfl) ?_
  refine qs (.slice (some ⟨g3, 0, none⟩) bs.length c) (by kernel_rfl) (R_load (p := ⟨g, 0, none⟩) (by kernel_rfl) (by kernel_rfl) (by kernel_rfl) (HS.cell (i := 0) (j := 0) rfl rfl)) ?_
  refine qs (.int .i64 (bs.length : Int)) (by kernel_rfl) (by kernel_rfl) ?_
  obtain ⟨f2, f2_⟩ : ∃ z_ : Nat, z_ = (f + 1) % bs.length := ⟨_, rfl⟩
  have f2l : f2 < bs.length := by rw [f2_]; exact Nat.mod_lt _ (by omega)
  refine qs (.int .i64 (f2 : Int)) (by kernel_rfl) (R_eq (R_rem (i := f + 1) (j := bs.length) (by kernel_rfl) (by kernel_rfl) (by omega) (by omega)) (by rw [← f2_])) ?_
  refine qs (.pointer (some ⟨g, 0, none⟩)) (by kernel_rfl) (by kernel_rfl) ?_
  refine qs (.pointer (some ⟨g, 1, none⟩)) (by kernel_rfl) (by kernel_rfl) ?_
  refine wpStill_nil ?_
  refine ks (v := .int .i64 (f2 : Int)) HS 0 rfl (1) [.int .i64 (f2 : Int)] (by kernel_rfl) (by kernel_rfl) (by kernel_rfl) (by kernel_rfl) (by kernel_rfl) (one_ (by kernel_rfl)) (Nat.le_of_ble_eq_true rfl) rfl ?_
  intro W8 H_
  replace HS : St W M W8 [blk g ((.slice (some ⟨g3, 0, none⟩) bs.length c) :: (.int .i64 (f2 : Int)) :: (.int .i64 (n : Int)) :: rest) tb, row (some ⟨g3, 0, none⟩) bs.length c (cz xs6) 9 1] := H_
  clear H_
  refine wpList_nil ?_
  refine x_then ?_
  refine wp_seq ?_
  refine wp_region_lit ?_
  refine ql (.pointer (some ⟨g, 0, none⟩)) (by kernel_rfl) (by kernel_rfl) ?_
  refine ql (.pointer (some ⟨g, 0, none⟩)) (by kernel_rfl) (by kernel_rfl) ?_
  refine ql (.pointer (some ⟨g, 2, none⟩)) (by kernel_rfl) (by kernel_rfl) ?_
  refine ql (.int .i64 (n : Int)) (by kernel_rfl) (R_load (p := ⟨g, 2, none⟩) (by kernel_rfl) (by kernel_rfl) (by kernel_rfl) (HS.cell (i := 0) (j := 2) rfl rfl)) ?_
  refine ql (.int .i64 ((n : Int) - 1)) (by kernel_rfl) (R_int (by kernel_rfl) (w64 (by omega))) ?_
  refine ql (.pointer (some ⟨g, 0, none⟩)) (by kernel_rfl) (by kernel_rfl) ?_
  refine ql (.pointer (some ⟨g, 2, none⟩)) (by kernel_rfl) (by kernel_rfl) ?_
  refine ks (v := .int .i64 ((n : Int) - 1)) HS 0 rfl (2) [.int .i64 ((n : Int) - 1)] (by kernel_rfl) (by kernel_rfl) (by kernel_rfl) (by kernel_rfl) (by kernel_rfl) (one_ (by kernel_rfl)) (Nat.le_of_ble_eq_true rfl) rfl ?_
  intro W9 H_
  replace HS : St W M W9 [blk g ((.slice (some ⟨g3, 0, none⟩) bs.length c) :: (.int .i64 (f2 : Int)) :: (.int .i64 ((n : Int) - 1)) :: rest) tb, row (some ⟨g3, 0, none⟩) bs.length c (cz xs6) 9 1] := H_
  clear H_
  refine wpList_nil ?_
  refine x_then ?_
  refine wp_seq ?_
  refine wp_region_lit ?_
  refine ql (.string (rdS bs (f : Int))) (by kernel_rfl) (by kernel_rfl) ?_
  refine ql (.string (rdS bs (f : Int))) (by kernel_rfl) (by kernel_rfl) ?_
  refine ql (.bool true) (by kernel_rfl) (by kernel_rfl) ?_
  refine wpList_nil ?_
  refine x_then ?_
  refine wp_ret ?_
  refine ret_ (.tuple #[.string (rdS bs (f : Int)), .bool true]) (by kernel_rfl) ?_
  have hqp := hq.pop (by omega) (q := xs6) (by rw [xs6_]; rfl)
  rw [← f2_] at hqp
  have hn2 : (n : Int) - 1 = ((n - 1 : Nat) : Int) := by omega
  rw [hn2, ← xs6l] at HS
  have hv : rdS bs (f : Int) = rdS xs 0 := by rw [hqp.1]; unfold rdS; rfl
  exact ⟨_, _, f2, _, by rw [hv], HS, hqp.2⟩

set_option maxRecDepth 100000 in
set_option maxHeartbeats 1000000 in
theorem qpushS (g tb : Nat) (rest : List Value) (A0 B : Option Addr) (c0 d f0 n0 : Nat) (bs0 xs0 ys : List ByteArray) (W : World) (M : Nat → Prop) (HS : St W M W [blk g ((.slice A0 bs0.length c0) :: (.int .i64 (f0 : Int)) :: (.int .i64 (n0 : Int)) :: rest) tb, row A0 bs0.length c0 (cz bs0) 9 1, row B ys.length d (cz ys) 9 1]) (hq0 : RQS bs0 f0 n0 xs0) (hl : xs0.length + ys.length ≤ 1099511627776) : Calls Try.prog 65 #[.pointer (some ⟨g, 0, none⟩), .slice B ys.length d] W fun e W' => ∃ (A' : Option Addr) (c' f' n' : Nat) (bs' : List ByteArray), e = .returned (.tuple #[]) ∧ St W M W' [blk g ((.slice A' bs'.length c') :: (.int .i64 (f' : Int)) :: (.int .i64 (n' : Int)) :: rest) tb, row A' bs'.length c' (cz bs') 9 1] ∧ RQS bs' f' n' (xs0 ++ ys) := by
  refine calls_enter ((.pointer (some ⟨g, 0, none⟩)) :: (.slice B ys.length d) :: undef :: undef :: undef :: undef :: undef :: undef :: undef :: undef :: undef :: undef :: undef :: undef :: undef :: undef :: undef :: undef :: undef :: undef :: undef :: undef :: undef :: undef :: undef :: undef :: undef :: undef :: undef :: undef :: undef :: undef :: undef :: undef :: undef :: undef :: undef :: undef :: undef :: undef :: undef :: undef :: undef :: undef :: undef :: undef :: undef :: undef :: undef :: undef :: undef :: undef :: undef :: undef :: undef :: undef :: undef :: undef :: undef :: undef :: undef :: undef :: undef :: undef :: undef :: undef :: undef :: undef :: undef :: undef :: undef :: undef :: undef :: undef :: undef :: undef :: undef :: undef :: undef :: undef :: undef :: undef :: undef :: undef :: undef :: undef :: undef :: undef :: undef :: undef :: undef :: undef :: undef :: []) Try.func65 rfl (by kernel_rfl) ?_
  refine wp_seq ?_
  refine wp_seq ?_
  refine wp_region_lit ?_
  refine ql (.pointer (some ⟨g, 0, none⟩)) (by kernel_rfl) (by kernel_rfl) ?_
  refine ql (.bool false) (by kernel_rfl) (by kernel_rfl) ?_
  refine wpList_nil ?_
  refine x_then ?_
  refine wp_cond_false (by kernel_rfl) ?_
  refine wp_skip ?_
  refine x_then ?_
  refine wp_seq ?_
  refine wp_region_lit ?_
  refine ql (.slice B ys.length d) (by kernel_rfl) (by kernel_rfl) ?_
  refine ql (.int .i64 (ys.length : Int)) (by kernel_rfl) (by kernel_rfl) ?_
  refine ql (.int .i64 0) (by kernel_rfl) (by kernel_rfl) ?_
  refine wpList_nil ?_
  refine x_then ?_
  refine wp_block ?_
  refine wp_loop_ghost (fun kq a' w' => ∃ (J1 : Nat → Value) (i : Int) (A : Option Addr) (c : Nat) (f : Nat) (n : Nat) (bs : List ByteArray) , a' = Fr ((.pointer (some ⟨g, 0, none⟩)) :: (.slice B ys.length d) :: undef :: undef :: undef :: ((J1 5)) :: ((J1 6)) :: ((J1 7)) :: (.pointer (some ⟨g, 0, none⟩)) :: (.bool false) :: (.slice B ys.length d) :: (.int .i64 (ys.length : Int)) :: (.int .i64 i) :: ((J1 13)) :: ((J1 14)) :: ((J1 15)) :: ((J1 16)) :: ((J1 17)) :: ((J1 18)) :: ((J1 19)) :: ((J1 20)) :: ((J1 21)) :: ((J1 22)) :: ((J1 23)) :: ((J1 24)) :: ((J1 25)) :: ((J1 26)) :: ((J1 27)) :: ((J1 28)) :: ((J1 29)) :: ((J1 30)) :: ((J1 31)) :: ((J1 32)) :: ((J1 33)) :: ((J1 34)) :: ((J1 35)) :: ((J1 36)) :: ((J1 37)) :: ((J1 38)) :: ((J1 39)) :: ((J1 40)) :: ((J1 41)) :: ((J1 42)) :: ((J1 43)) :: ((J1 44)) :: ((J1 45)) :: ((J1 46)) :: ((J1 47)) :: ((J1 48)) :: ((J1 49)) :: ((J1 50)) :: ((J1 51)) :: ((J1 52)) :: ((J1 53)) :: ((J1 54)) :: ((J1 55)) :: ((J1 56)) :: ((J1 57)) :: ((J1 58)) :: ((J1 59)) :: ((J1 60)) :: ((J1 61)) :: ((J1 62)) :: ((J1 63)) :: ((J1 64)) :: ((J1 65)) :: ((J1 66)) :: ((J1 67)) :: ((J1 68)) :: ((J1 69)) :: ((J1 70)) :: ((J1 71)) :: ((J1 72)) :: ((J1 73)) :: ((J1 74)) :: ((J1 75)) :: ((J1 76)) :: ((J1 77)) :: ((J1 78)) :: ((J1 79)) :: ((J1 80)) :: ((J1 81)) :: ((J1 82)) :: ((J1 83)) :: ((J1 84)) :: ((J1 85)) :: ((J1 86)) :: ((J1 87)) :: ((J1 88)) :: ((J1 89)) :: ((J1 90)) :: ((J1 91)) :: ((J1 92)) :: []) ∧ kq = (ys.length - (i).toNat) ∧ (0 ≤ i) ∧ (i ≤ ys.length) ∧ (RQS bs f n (xs0 ++ ys.take (i).toNat)) ∧ St W M w' [blk g ((.slice A bs.length c) :: (.int .i64 (f : Int)) :: (.int .i64 (n : Int)) :: rest) tb, row A bs.length c (cz bs) 9 1, row B ys.length d (cz ys) 9 1]) (ys.length - ((0 : Int)).toNat) ⟨(fun k_ : Nat => List.getD ((.pointer (some ⟨g, 0, none⟩)) :: (.slice B ys.length d) :: undef :: undef :: undef :: undef :: undef :: undef :: (.pointer (some ⟨g, 0, none⟩)) :: (.bool false) :: (.slice B ys.length d) :: (.int .i64 (ys.length : Int)) :: (.int .i64 0) :: undef :: undef :: undef :: undef :: undef :: undef :: undef :: undef :: undef :: undef :: undef :: undef :: undef :: undef :: undef :: undef :: undef :: undef :: undef :: undef :: undef :: undef :: undef :: undef :: undef :: undef :: undef :: undef :: undef :: undef :: undef :: undef :: undef :: undef :: undef :: undef :: undef :: undef :: undef :: undef :: undef :: undef :: undef :: undef :: undef :: undef :: undef :: undef :: undef :: undef :: undef :: undef :: undef :: undef :: undef :: undef :: undef :: undef :: undef :: undef :: undef :: undef :: undef :: undef :: undef :: undef :: undef :: undef :: undef :: undef :: undef :: undef :: undef :: undef :: undef :: undef :: undef :: undef :: undef :: undef :: []) k_ undef), (0 : Int), A0, c0, f0, n0, bs0, congrArg Fr (by kernel_rfl), rfl, by omega, by omega, by simpa using hq0, HS⟩ ?_
  clear HS
  intro kq2 a' W3 hrel
  obtain ⟨J1, i, A, c, f, n, bs, rfl, hk, i0, i1, hq, HS⟩ := hrel
  have hlen := hq.len
  have hqn := hq.hn
  have hqb := hq.hb
  have hqf := hq.hf
  have hq0 := hq.h0
  have hxl : (xs0 ++ ys.take i.toNat).length ≤ xs0.length + ys.length := by rw [List.length_append, List.length_take]; omega
  refine wp_seq ?_
  refine wp_region_lit ?_
  by_cases hc4 : i < (ys.length : Int)
  · skip
    refine ql (.bool true) (by kernel_rfl) (R_bool (p := i < (ys.length : Int)) (by kernel_rfl) (hc4)) ?_
    refine wpList_nil ?_
    refine x_then ?_
    refine wp_seq ?_
    refine wp_cond_true (by kernel_rfl) ?_
    refine wp_skip ?_
    refine x_then ?_
    refine wp_seq ?_
    refine wp_block ?_
    refine wp_seq ?_
    refine wp_region_lit ?_
    obtain ⟨g5, rfl⟩ := St.rsome HS (i := 2) rfl (by omega)
    refine ql (.pointer (some ⟨g5, i.toNat, none⟩)) (by kernel_rfl) (R_index1 (k := .i64) (g := g5) (n := ys.length) (c := d) (i := i) (by kernel_rfl) (by kernel_rfl) Try.underlying93 (by kernel_rfl) (by omega) (by omega)) ?_
    refine ql (.string (rdS ys i)) (by kernel_rfl) (R_load (p := ⟨g5, i.toNat, none⟩) (by kernel_rfl) (by kernel_rfl) (by kernel_rfl) (HS.rcell (i := 2) rfl (cz_rd (i := i) (by omega) (by omega)))) ?_
    refine ql (.string (rdS ys i)) (by kernel_rfl) (by kernel_rfl) ?_
    refine wpList_nil ?_
    refine x_then ?_
    refine wp_seq ?_
    refine wp_seq ?_
    refine rg_still HS 9 (by kernel_rfl) (by kernel_rfl) ?_
    intro W6 H_ HK_
    simp only [List.take_succ_cons, List.take_zero, List.drop_succ_cons, List.drop_zero]
    replace HS : St W M W6 [blk g ((.slice A bs.length c) :: (.int .i64 (f : Int)) :: (.int .i64 (n : Int)) :: rest) tb, row A bs.length c (cz bs) 9 1, row (some ⟨g5, 0, none⟩) ys.length d (cz ys) 9 1] := H_
    clear H_
    clear HK_
    refine qs (.pointer (some ⟨g, 0, none⟩)) (by kernel_rfl) (by kernel_rfl) ?_
    refine qs (.pointer (some ⟨g, 0, none⟩)) (by kernel_rfl) (by kernel_rfl) ?_
    refine qs (.pointer (some ⟨g, 2, none⟩)) (by kernel_rfl) (by kernel_rfl) ?_
    refine qs (.int .i64 (n : Int)) (by kernel_rfl) (R_load (p := ⟨g, 2, none⟩) (by kernel_rfl) (by kernel_rfl) (by kernel_rfl) (HS.cell (i := 0) (j := 2) rfl rfl)) ?_
    refine qs (.pointer (some ⟨g, 0, none⟩)) (by kernel_rfl) (by kernel_rfl) ?_
    refine qs (.pointer (some ⟨g, 0, none⟩)) (by kernel_rfl) (by kernel_rfl) ?_
    refine qs (.pointer (some ⟨g, 0, none⟩)) (by kernel_rfl) (by kernel_rfl) ?_
    refine qs (.slice A bs.length c) (by kernel_rfl) (R_load (p := ⟨g, 0, none⟩) (by kernel_rfl) (by kernel_rfl) (by kernel_rfl) (HS.cell (i := 0) (j := 0) rfl rfl)) ?_
    refine qs (.int .i64 (bs.length : Int)) (by kernel_rfl) (by kernel_rfl) ?_
    refine wpStill_nil ?_
    by_cases hc7 : (n : Int) = (bs.length : Int)
    · skip
      refine ql (.bool true) (by kernel_rfl) (R_beq (b := ((n : Int) == (bs.length : Int))) (by kernel_rfl) (beq_t (hc7))) ?_
      refine wpList_nil ?_
      refine x_then ?_
      refine wp_cond_true (by kernel_rfl) ?_
      refine wp_seq ?_
      refine wp_region_lit ?_
      refine ql (.pointer (some ⟨g, 0, none⟩)) (by kernel_rfl) (by kernel_rfl) ?_
      refine ql (.pointer (some ⟨g, 0, none⟩)) (by kernel_rfl) (by kernel_rfl) ?_
      refine ql (.pointer (some ⟨g, 2, none⟩)) (by kernel_rfl) (by kernel_rfl) ?_
      refine ql (.int .i64 (n : Int)) (by kernel_rfl) (R_load (p := ⟨g, 2, none⟩) (by kernel_rfl) (by kernel_rfl) (by kernel_rfl) (HS.cell (i := 0) (j := 2) rfl rfl)) ?_
      refine ql (.int .i64 (2 * (n : Int))) (by kernel_rfl) (R_int (by kernel_rfl) (w64 (by omega))) ?_
      obtain ⟨m, hm⟩ : ∃ z_ : Nat, (z_ : Int) = max (4 : Int) (2 * (n : Int)) := ⟨(max (4 : Int) (2 * (n : Int))).toNat, by omega⟩
      have hm1 : 4 ≤ m ∧ 2 * n ≤ m ∧ m ≤ 2199023255556 := by omega
      refine ql (.int .i64 (m : Int)) (by kernel_rfl) (R_eq (R_max (i := 4) (j := 2 * (n : Int)) (by kernel_rfl) (by kernel_rfl)) (by rw [hm])) ?_
      refine km HS (m) [.string ByteArray.empty] 16 (by kernel_rfl) (k_eq (k := .i64) (m := (m : Int)) (by kernel_rfl) (by omega)) (k_eq (k := .i64) (m := (m : Int)) (by kernel_rfl) (by omega)) Try.underlying93 (by kernel_rfl) (by kernel_rfl) (by kernel_rfl) (by decide) (by omega) (by omega) ?_
      intro g8 W9 H_
      replace HS : St W M W9 [row (some ⟨g8, 0, none⟩) m m (cz (List.replicate (m) ByteArray.empty)) 9 1, blk g ((.slice A bs.length c) :: (.int .i64 (f : Int)) :: (.int .i64 (n : Int)) :: rest) tb, row A bs.length c (cz bs) 9 1, row (some ⟨g5, 0, none⟩) ys.length d (cz ys) 9 1] := H_.cast_ (by rw [cz_rep]; rfl)
      clear H_
      have rlg8 : (List.replicate (m) (ByteArray.empty : ByteArray)).length = m := List.length_replicate
      refine ql (.slice (some ⟨g8, 0, none⟩) m m) (by kernel_rfl) (by kernel_rfl) ?_
      refine wpList_nil ?_
      refine x_then ?_
      refine wp_seq ?_
      refine rg_still HS 10 (by kernel_rfl) (by kernel_rfl) ?_
      intro W10 H_ HK_
      simp only [List.take_succ_cons, List.take_zero, List.drop_succ_cons, List.drop_zero]
      replace HS : St W M W10 [row (some ⟨g8, 0, none⟩) m m (cz (List.replicate (m) ByteArray.empty)) 9 1, blk g ((.slice A bs.length c) :: (.int .i64 (f : Int)) :: (.int .i64 (n : Int)) :: rest) tb, row A bs.length c (cz bs) 9 1, row (some ⟨g5, 0, none⟩) ys.length d (cz ys) 9 1] := H_
      clear H_
      clear HK_
      refine qs (.slice (some ⟨g8, 0, none⟩) m m) (by kernel_rfl) (by kernel_rfl) ?_
      refine qs (.pointer (some ⟨g, 0, none⟩)) (by kernel_rfl) (by kernel_rfl) ?_
      refine qs (.pointer (some ⟨g, 0, none⟩)) (by kernel_rfl) (by kernel_rfl) ?_
      refine qs (.pointer (some ⟨g, 0, none⟩)) (by kernel_rfl) (by kernel_rfl) ?_
      refine qs (.slice A bs.length c) (by kernel_rfl) (R_load (p := ⟨g, 0, none⟩) (by kernel_rfl) (by kernel_rfl) (by kernel_rfl) (HS.cell (i := 1) (j := 0) rfl rfl)) ?_
      refine qs (.pointer (some ⟨g, 0, none⟩)) (by kernel_rfl) (by kernel_rfl) ?_
      refine qs (.pointer (some ⟨g, 0, none⟩)) (by kernel_rfl) (by kernel_rfl) ?_
      refine qs (.pointer (some ⟨g, 1, none⟩)) (by kernel_rfl) (by kernel_rfl) ?_
      refine qs (.int .i64 (f : Int)) (by kernel_rfl) (R_load (p := ⟨g, 1, none⟩) (by kernel_rfl) (by kernel_rfl) (by kernel_rfl) (HS.cell (i := 1) (j := 1) rfl rfl)) ?_
      refine qs (.slice (cutA A c f 1) (bs.length - f) (c - f)) (by kernel_rfl) (R_sliceL (k := .i64) (A := A) (n := bs.length) (c := c) (i := (f : Int)) (by kernel_rfl) (by kernel_rfl) Try.underlying93 (by kernel_rfl) (by omega) (by omega)) ?_
      refine wpStill_nil ?_
      refine kcp HS 0 rfl 0 m m (Src.tail (m := f) (Src.of_row HS (i := 2) rfl cz_one) (by omega) (St.rcap HS (i := 2) rfl).1) (by omega) (by rw [cz_len, List.length_replicate]; omega) (by kernel_rfl) (by kernel_rfl) (by kernel_rfl) Try.underlying93 (by kernel_rfl) ?_
      intro W11 H_
      obtain ⟨q1, q1_⟩ : ∃ z_ : List ByteArray, z_ = (List.replicate m ByteArray.empty).take 0 ++ bs.drop f ++ (List.replicate m ByteArray.empty).drop (0 + (bs.drop f).length) := ⟨_, rfl⟩
      have hsp : splice (cz (List.replicate m ByteArray.empty)) 0 ((cz bs).drop f) = cz q1 := by rw [cz_drop, cz_splice (by rw [List.length_drop, List.length_replicate]; omega), q1_]
      have q1l : q1.length = m := by rw [q1_]; simp; omega
      rw [hsp] at H_
      replace HS : St W M W11 [row (some ⟨g8, 0, none⟩) m m (cz q1) 9 1, blk g ((.slice A bs.length c) :: (.int .i64 (f : Int)) :: (.int .i64 (n : Int)) :: rest) tb, row A bs.length c (cz bs) 9 1, row (some ⟨g5, 0, none⟩) ys.length d (cz ys) 9 1] := H_.cast_ (by rfl)
      clear H_
      refine ql (.int .i64 ((bs.length - f : Nat) : Int)) (by kernel_rfl) (by kernel_rfl) ?_
      refine wpList_nil ?_
      refine x_then ?_
      refine wp_seq ?_
      have hcap := (St.rcap HS (i := 2) rfl).1
      refine rg_still HS 12 (by kernel_rfl) (by kernel_rfl) ?_
      intro W12 H_ HK_
      simp only [List.take_succ_cons, List.take_zero, List.drop_succ_cons, List.drop_zero]
      replace HS : St W M W12 [row (some ⟨g8, 0, none⟩) m m (cz q1) 9 1, blk g ((.slice A bs.length c) :: (.int .i64 (f : Int)) :: (.int .i64 (n : Int)) :: rest) tb, row A bs.length c (cz bs) 9 1, row (some ⟨g5, 0, none⟩) ys.length d (cz ys) 9 1] := H_
      clear H_
      clear HK_
      refine qs (.slice (some ⟨g8, 0, none⟩) m m) (by kernel_rfl) (by kernel_rfl) ?_
      refine qs (.int .i64 ((bs.length - f : Nat) : Int)) (by kernel_rfl) (by kernel_rfl) ?_
      refine qs (.slice (some ⟨g8, (bs.length - f), none⟩) (m - (bs.length - f)) (m - (bs.length - f))) (by kernel_rfl) (R_eq (R_sliceL (k := .i64) (A := some ⟨g8, 0, none⟩) (n := m) (c := m) (i := ((bs.length - f : Nat) : Int)) (by kernel_rfl) (by kernel_rfl) Try.underlying93 (by kernel_rfl) (by omega) (by omega)) (by rw [Int.toNat_natCast, cutA_blk (by omega)])) ?_
      refine qs (.pointer (some ⟨g, 0, none⟩)) (by kernel_rfl) (by kernel_rfl) ?_
      refine qs (.pointer (some ⟨g, 0, none⟩)) (by kernel_rfl) (by kernel_rfl) ?_
      refine qs (.pointer (some ⟨g, 0, none⟩)) (by kernel_rfl) (by kernel_rfl) ?_
      refine qs (.slice A bs.length c) (by kernel_rfl) (R_load (p := ⟨g, 0, none⟩) (by kernel_rfl) (by kernel_rfl) (by kernel_rfl) (HS.cell (i := 1) (j := 0) rfl rfl)) ?_
      refine qs (.pointer (some ⟨g, 0, none⟩)) (by kernel_rfl) (by kernel_rfl) ?_
      refine qs (.pointer (some ⟨g, 0, none⟩)) (by kernel_rfl) (by kernel_rfl) ?_
      refine qs (.pointer (some ⟨g, 1, none⟩)) (by kernel_rfl) (by kernel_rfl) ?_
      refine qs (.int .i64 (f : Int)) (by kernel_rfl) (R_load (p := ⟨g, 1, none⟩) (by kernel_rfl) (by kernel_rfl) (by kernel_rfl) (HS.cell (i := 1) (j := 1) rfl rfl)) ?_
      refine qs (.slice A f c) (by kernel_rfl) (R_sliceH (z := 1) (e := 9) (k := .i64) (A := A) (n := bs.length) (c := c) (i := (f : Int)) (by kernel_rfl) (by kernel_rfl) Try.underlying93 (by kernel_rfl) (by omega) (by omega)) ?_
      refine wpStill_nil ?_
      refine kcp HS 0 rfl (bs.length - f) (m - (bs.length - f)) (m - (bs.length - f)) (Src.head (m := f) (Src.of_row HS (i := 2) rfl cz_one) (by omega)) (by omega) (by rw [cz_len]; omega) (by kernel_rfl) (by kernel_rfl) (by kernel_rfl) Try.underlying93 (by kernel_rfl) ?_
      intro W13 H_
      obtain ⟨q2, q2_⟩ : ∃ z_ : List ByteArray, z_ = q1.take (bs.length - f) ++ bs.take f ++ q1.drop (bs.length - f + (bs.take f).length) := ⟨_, rfl⟩
      have hsp2 : splice (cz q1) (bs.length - f) ((cz bs).take f) = cz q2 := by rw [cz_take', cz_splice (by rw [List.length_take]; omega), q2_]
      have q2l : q2.length = m := by rw [q2_]; simp; omega
      have q2e : q2 = bs.drop f ++ bs.take f ++ List.replicate (m - bs.length) ByteArray.empty := ringS_copy (by omega) (by omega) q1_ q2_
      rw [hsp2] at H_
      replace HS : St W M W13 [row (some ⟨g8, 0, none⟩) m m (cz q2) 9 1, blk g ((.slice A bs.length c) :: (.int .i64 (f : Int)) :: (.int .i64 (n : Int)) :: rest) tb, row A bs.length c (cz bs) 9 1, row (some ⟨g5, 0, none⟩) ys.length d (cz ys) 9 1] := H_.cast_ (by rfl)
      clear H_
      refine wpList_nil ?_
      refine x_then ?_
      refine wp_region_lit ?_
      refine ql (.pointer (some ⟨g, 0, none⟩)) (by kernel_rfl) (by kernel_rfl) ?_
      refine ql (.pointer (some ⟨g, 0, none⟩)) (by kernel_rfl) (by kernel_rfl) ?_
      refine ql (.slice (some ⟨g8, 0, none⟩) m m) (by kernel_rfl) (by kernel_rfl) ?_
      refine ql (.pointer (some ⟨g, 0, none⟩)) (by kernel_rfl) (by kernel_rfl) ?_
      refine ql (.pointer (some ⟨g, 0, none⟩)) (by kernel_rfl) (by kernel_rfl) ?_
      refine ks (v := .slice (some ⟨g8, 0, none⟩) m m) HS 1 rfl (0) [.slice (some ⟨g8, 0, none⟩) m m] (by kernel_rfl) (by kernel_rfl) (by kernel_rfl) (by kernel_rfl) (by kernel_rfl) (one_ (by kernel_rfl)) (Nat.le_of_ble_eq_true rfl) rfl ?_
      intro W14 H_
      replace HS : St W M W14 [row (some ⟨g8, 0, none⟩) m m (cz q2) 9 1, blk g ((.slice (some ⟨g8, 0, none⟩) m m) :: (.int .i64 (f : Int)) :: (.int .i64 (n : Int)) :: rest) tb, row A bs.length c (cz bs) 9 1, row (some ⟨g5, 0, none⟩) ys.length d (cz ys) 9 1] := H_
      clear H_
      refine ql (.pointer (some ⟨g, 0, none⟩)) (by kernel_rfl) (by kernel_rfl) ?_
      refine ql (.pointer (some ⟨g, 1, none⟩)) (by kernel_rfl) (by kernel_rfl) ?_
      refine ks (v := .int .i64 0) HS 1 rfl (1) [.int .i64 0] (by kernel_rfl) (by kernel_rfl) (by kernel_rfl) (by kernel_rfl) (by kernel_rfl) (one_ (by kernel_rfl)) (Nat.le_of_ble_eq_true rfl) rfl ?_
      intro W15 H_
      replace HS : St W M W15 [row (some ⟨g8, 0, none⟩) m m (cz q2) 9 1, blk g ((.slice (some ⟨g8, 0, none⟩) m m) :: (.int .i64 0) :: (.int .i64 (n : Int)) :: rest) tb, row A bs.length c (cz bs) 9 1, row (some ⟨g5, 0, none⟩) ys.length d (cz ys) 9 1] := H_
      clear H_
      refine wpList_nil ?_
      refine x_then ?_
      refine wp_seq ?_
      subst q2l
      have hqg := hq.grow (by omega) q2e (by omega) (by omega)
      refine rg_still HS 21 (by kernel_rfl) (by kernel_rfl) ?_
      intro W16 H_ HK_
      simp only [List.take_succ_cons, List.take_zero, List.drop_succ_cons, List.drop_zero]
      replace HS : St W M W16 [row (some ⟨g8, 0, none⟩) q2.length q2.length (cz q2) 9 1, blk g ((.slice (some ⟨g8, 0, none⟩) q2.length q2.length) :: (.int .i64 0) :: (.int .i64 (n : Int)) :: rest) tb, row A bs.length c (cz bs) 9 1, row (some ⟨g5, 0, none⟩) ys.length d (cz ys) 9 1] := H_
      clear H_
      clear HK_
      refine qs (.pointer (some ⟨g, 0, none⟩)) (by kernel_rfl) (by kernel_rfl) ?_
      refine qs (.pointer (some ⟨g, 0, none⟩)) (by kernel_rfl) (by kernel_rfl) ?_
      refine qs (.pointer (some ⟨g, 0, none⟩)) (by kernel_rfl) (by kernel_rfl) ?_
      refine qs (.slice (some ⟨g8, 0, none⟩) q2.length q2.length) (by kernel_rfl) (R_load (p := ⟨g, 0, none⟩) (by kernel_rfl) (by kernel_rfl) (by kernel_rfl) (HS.cell (i := 1) (j := 0) rfl rfl)) ?_
      refine qs (.pointer (some ⟨g, 0, none⟩)) (by kernel_rfl) (by kernel_rfl) ?_
      refine qs (.pointer (some ⟨g, 0, none⟩)) (by kernel_rfl) (by kernel_rfl) ?_
      refine qs (.pointer (some ⟨g, 1, none⟩)) (by kernel_rfl) (by kernel_rfl) ?_
      refine qs (.int .i64 0) (by kernel_rfl) (R_load (p := ⟨g, 1, none⟩) (by kernel_rfl) (by kernel_rfl) (by kernel_rfl) (HS.cell (i := 1) (j := 1) rfl rfl)) ?_
      refine qs (.pointer (some ⟨g, 0, none⟩)) (by kernel_rfl) (by kernel_rfl) ?_
      refine qs (.pointer (some ⟨g, 0, none⟩)) (by kernel_rfl) (by kernel_rfl) ?_
      refine qs (.pointer (some ⟨g, 2, none⟩)) (by kernel_rfl) (by kernel_rfl) ?_
      refine qs (.int .i64 (n : Int)) (by kernel_rfl) (R_load (p := ⟨g, 2, none⟩) (by kernel_rfl) (by kernel_rfl) (by kernel_rfl) (HS.cell (i := 1) (j := 2) rfl rfl)) ?_
      refine qs (.int .i64 (0 + (n : Int))) (by kernel_rfl) (R_int (by kernel_rfl) (w64 (by omega))) ?_
      refine qs (.pointer (some ⟨g, 0, none⟩)) (by kernel_rfl) (by kernel_rfl) ?_
      refine qs (.pointer (some ⟨g, 0, none⟩)) (by kernel_rfl) (by kernel_rfl) ?_
      refine qs (.pointer (some ⟨g, 0, none⟩)) (by kernel_rfl) (by kernel_rfl) ?_
      refine qs (.slice (some ⟨g8, 0, none⟩) q2.length q2.length) (by kernel_rfl) (R_load (p := ⟨g, 0, none⟩) (by kernel_rfl) (by kernel_rfl) (by kernel_rfl) (HS.cell (i := 1) (j := 0) rfl rfl)) ?_
      refine qs (.int .i64 (q2.length : Int)) (by kernel_rfl) (by kernel_rfl) ?_
      obtain ⟨rm, rm_⟩ : ∃ z_ : Nat, z_ = (0 + n) % q2.length := ⟨_, rfl⟩
      have rml : rm < q2.length := by rw [rm_]; exact Nat.mod_lt _ (by omega)
      refine qs (.int .i64 (rm : Int)) (by kernel_rfl) (R_eq (R_rem (i := 0 + n) (j := q2.length) (by kernel_rfl) (by kernel_rfl) (by omega) (by omega)) (by rw [← rm_])) ?_
      refine qs (.string (rdS ys i)) (by kernel_rfl) (by kernel_rfl) ?_
      refine qs (.pointer (some ⟨g8, (rm : Int).toNat, none⟩)) (by kernel_rfl) (R_index1 (k := .i64) (g := g8) (n := q2.length) (c := q2.length) (i := (rm : Int)) (by kernel_rfl) (by kernel_rfl) Try.underlying93 (by kernel_rfl) (by omega) (by omega)) ?_
      refine wpStill_nil ?_
      refine kr (v := .string (rdS ys i)) HS 0 rfl ((rm : Int).toNat) [.string (rdS ys i)] (by kernel_rfl) (by kernel_rfl) (by kernel_rfl) (by kernel_rfl) (by kernel_rfl) (one_ (by kernel_rfl)) (by rw [cz_len]; first | omega | (simp only [List.length_singleton]; omega)) rfl ?_
      intro W17 H_
      obtain ⟨xs18, xs18_⟩ : ∃ z_ : List ByteArray, z_ = (q2).set (rm : Int).toNat (rdS ys i) := ⟨_, rfl⟩
      replace HS : St W M W17 [row (some ⟨g8, 0, none⟩) q2.length q2.length (cz xs18) 9 1, blk g ((.slice (some ⟨g8, 0, none⟩) q2.length q2.length) :: (.int .i64 0) :: (.int .i64 (n : Int)) :: rest) tb, row A bs.length c (cz bs) 9 1, row (some ⟨g5, 0, none⟩) ys.length d (cz ys) 9 1] := H_.cast_ (by rw [xs18_, ← cz_set]; rfl)
      clear H_
      have xs18l : xs18.length = q2.length := by rw [xs18_, List.length_set]; first | done | omega
      refine wpList_nil ?_
      refine x_then ?_
      refine wp_region_lit ?_
      refine ql (.pointer (some ⟨g, 0, none⟩)) (by kernel_rfl) (by kernel_rfl) ?_
      refine ql (.pointer (some ⟨g, 0, none⟩)) (by kernel_rfl) (by kernel_rfl) ?_
      refine ql (.pointer (some ⟨g, 2, none⟩)) (by kernel_rfl) (by kernel_rfl) ?_
      refine ql (.int .i64 (n : Int)) (by kernel_rfl) (R_load (p := ⟨g, 2, none⟩) (by kernel_rfl) (by kernel_rfl) (by kernel_rfl) (HS.cell (i := 1) (j := 2) rfl rfl)) ?_
      refine ql (.int .i64 ((n : Int) + 1)) (by kernel_rfl) (R_int (by kernel_rfl) (w64 (by omega))) ?_
      refine ql (.pointer (some ⟨g, 0, none⟩)) (by kernel_rfl) (by kernel_rfl) ?_
      refine ql (.pointer (some ⟨g, 2, none⟩)) (by kernel_rfl) (by kernel_rfl) ?_
      refine ks (v := .int .i64 ((n : Int) + 1)) HS 1 rfl (2) [.int .i64 ((n : Int) + 1)] (by kernel_rfl) (by kernel_rfl) (by kernel_rfl) (by kernel_rfl) (by kernel_rfl) (one_ (by kernel_rfl)) (Nat.le_of_ble_eq_true rfl) rfl ?_
      intro W19 H_
      replace HS : St W M W19 [row (some ⟨g8, 0, none⟩) q2.length q2.length (cz xs18) 9 1, blk g ((.slice (some ⟨g8, 0, none⟩) q2.length q2.length) :: (.int .i64 0) :: (.int .i64 ((n : Int) + 1)) :: rest) tb, row A bs.length c (cz bs) 9 1, row (some ⟨g5, 0, none⟩) ys.length d (cz ys) 9 1] := H_
      clear H_
      refine wpList_nil ?_
      refine x_inb ?_
      refine x_then ?_
      refine wp_region_lit ?_
      refine ql (.int .i64 (i + 1)) (by kernel_rfl) (R_int (by kernel_rfl) (w64 (by omega))) ?_
      refine ql (.int .i64 (i + 1)) (by kernel_rfl) (by kernel_rfl) ?_
      refine wpList_nil ?_
      replace HS : St W M W19 [blk g ((.slice (some ⟨g8, 0, none⟩) q2.length q2.length) :: (.int .i64 0) :: (.int .i64 ((n : Int) + 1)) :: rest) tb, row (some ⟨g8, 0, none⟩) q2.length q2.length (cz xs18) 9 1, row (some ⟨g5, 0, none⟩) ys.length d (cz ys) 9 1] := St.tail (F := [row A bs.length c (cz bs) 9 1]) (HS.perm (perm_ [2, 1, 0, 3] (by kernel_rfl) rfl))
      have hn2 : (n : Int) + 1 = ((n + 1 : Nat) : Int) := by omega
      rw [hn2] at HS
      rw [← xs18l] at HS
      have hqp := hqg.push (v := rdS ys i) (by omega) (q := xs18) (by rw [xs18_, ← rm_]; rfl)
      rw [List.append_assoc, ← take_rdS (xs := ys) i0 (by omega)] at hqp
      refine x_then ?_
      exact ⟨ys.length - (i + 1).toNat, by omega, (fun k_ : Nat => List.getD ((.pointer (some ⟨g, 0, none⟩)) :: (.slice (some ⟨g5, 0, none⟩) ys.length d) :: undef :: undef :: undef :: (.string (rdS ys i)) :: (.slice (some ⟨g8, 0, none⟩) q2.length q2.length) :: (.int .i64 ((bs.length - f : Nat) : Int)) :: (.pointer (some ⟨g, 0, none⟩)) :: (.bool false) :: (.slice (some ⟨g5, 0, none⟩) ys.length d) :: (.int .i64 (ys.length : Int)) :: (.int .i64 (i + 1)) :: (.bool true) :: (.pointer (some ⟨g5, i.toNat, none⟩)) :: (.string (rdS ys i)) :: (.pointer (some ⟨g, 0, none⟩)) :: (.pointer (some ⟨g, 0, none⟩)) :: (.pointer (some ⟨g, 2, none⟩)) :: (.int .i64 (n : Int)) :: (.pointer (some ⟨g, 0, none⟩)) :: (.pointer (some ⟨g, 0, none⟩)) :: (.pointer (some ⟨g, 0, none⟩)) :: (.slice A bs.length c) :: (.int .i64 (bs.length : Int)) :: (.bool true) :: (.pointer (some ⟨g, 0, none⟩)) :: (.pointer (some ⟨g, 0, none⟩)) :: (.pointer (some ⟨g, 2, none⟩)) :: (.int .i64 (n : Int)) :: (.int .i64 (2 * (n : Int))) :: (.int .i64 (q2.length : Int)) :: (.slice (some ⟨g8, 0, none⟩) q2.length q2.length) :: (.slice (some ⟨g8, 0, none⟩) q2.length q2.length) :: (.pointer (some ⟨g, 0, none⟩)) :: (.pointer (some ⟨g, 0, none⟩)) :: (.pointer (some ⟨g, 0, none⟩)) :: (.slice A bs.length c) :: (.pointer (some ⟨g, 0, none⟩)) :: (.pointer (some ⟨g, 0, none⟩)) :: (.pointer (some ⟨g, 1, none⟩)) :: (.int .i64 (f : Int)) :: (.slice (cutA A c f 1) (bs.length - f) (c - f)) :: (.int .i64 ((bs.length - f : Nat) : Int)) :: (.slice (some ⟨g8, 0, none⟩) q2.length q2.length) :: (.int .i64 ((bs.length - f : Nat) : Int)) :: (.slice (some ⟨g8, (bs.length - f), none⟩) (q2.length - (bs.length - f)) (q2.length - (bs.length - f))) :: (.pointer (some ⟨g, 0, none⟩)) :: (.pointer (some ⟨g, 0, none⟩)) :: (.pointer (some ⟨g, 0, none⟩)) :: (.slice A bs.length c) :: (.pointer (some ⟨g, 0, none⟩)) :: (.pointer (some ⟨g, 0, none⟩)) :: (.pointer (some ⟨g, 1, none⟩)) :: (.int .i64 (f : Int)) :: (.slice A f c) :: (.int .i64 (f : Int)) :: (.pointer (some ⟨g, 0, none⟩)) :: (.pointer (some ⟨g, 0, none⟩)) :: (.slice (some ⟨g8, 0, none⟩) q2.length q2.length) :: (.pointer (some ⟨g, 0, none⟩)) :: (.pointer (some ⟨g, 0, none⟩)) :: (.pointer (some ⟨g, 0, none⟩)) :: (.pointer (some ⟨g, 1, none⟩)) :: (.pointer (some ⟨g, 0, none⟩)) :: (.pointer (some ⟨g, 0, none⟩)) :: (.pointer (some ⟨g, 0, none⟩)) :: (.slice (some ⟨g8, 0, none⟩) q2.length q2.length) :: (.pointer (some ⟨g, 0, none⟩)) :: (.pointer (some ⟨g, 0, none⟩)) :: (.pointer (some ⟨g, 1, none⟩)) :: (.int .i64 0) :: (.pointer (some ⟨g, 0, none⟩)) :: (.pointer (some ⟨g, 0, none⟩)) :: (.pointer (some ⟨g, 2, none⟩)) :: (.int .i64 (n : Int)) :: (.int .i64 (0 + (n : Int))) :: (.pointer (some ⟨g, 0, none⟩)) :: (.pointer (some ⟨g, 0, none⟩)) :: (.pointer (some ⟨g, 0, none⟩)) :: (.slice (some ⟨g8, 0, none⟩) q2.length q2.length) :: (.int .i64 (q2.length : Int)) :: (.int .i64 (rm : Int)) :: (.string (rdS ys i)) :: (.pointer (some ⟨g8, (rm : Int).toNat, none⟩)) :: (.pointer (some ⟨g, 0, none⟩)) :: (.pointer (some ⟨g, 0, none⟩)) :: (.pointer (some ⟨g, 2, none⟩)) :: (.int .i64 (n : Int)) :: (.int .i64 ((n : Int) + 1)) :: (.pointer (some ⟨g, 0, none⟩)) :: (.pointer (some ⟨g, 2, none⟩)) :: (.int .i64 (i + 1)) :: []) k_ undef), i + 1, some ⟨g8, 0, none⟩, xs18.length, 0, (n + 1), xs18, congrArg Fr (by kernel_rfl), rfl, by omega, by omega, hqp, HS⟩
    · skip
      refine ql (.bool false) (by kernel_rfl) (R_beq (b := ((n : Int) == (bs.length : Int))) (by kernel_rfl) (beq_f (hc7))) ?_
      refine wpList_nil ?_
      refine x_then ?_
      refine wp_cond_false (by kernel_rfl) ?_
      refine wp_skip ?_
      refine x_then ?_
      refine wp_seq ?_
      refine rg_still HS 21 (by kernel_rfl) (by kernel_rfl) ?_
      intro W20 H_ HK_
      simp only [List.take_succ_cons, List.take_zero, List.drop_succ_cons, List.drop_zero]
      replace HS : St W M W20 [blk g ((.slice A bs.length c) :: (.int .i64 (f : Int)) :: (.int .i64 (n : Int)) :: rest) tb, row A bs.length c (cz bs) 9 1, row (some ⟨g5, 0, none⟩) ys.length d (cz ys) 9 1] := H_
      clear H_
      clear HK_
      refine qs (.pointer (some ⟨g, 0, none⟩)) (by kernel_rfl) (by kernel_rfl) ?_
      refine qs (.pointer (some ⟨g, 0, none⟩)) (by kernel_rfl) (by kernel_rfl) ?_
      refine qs (.pointer (some ⟨g, 0, none⟩)) (by kernel_rfl) (by kernel_rfl) ?_
      refine qs (.slice A bs.length c) (by kernel_rfl) (R_load (p := ⟨g, 0, none⟩) (by kernel_rfl) (by kernel_rfl) (by kernel_rfl) (HS.cell (i := 0) (j := 0) rfl rfl)) ?_
      refine qs (.pointer (some ⟨g, 0, none⟩)) (by kernel_rfl) (by kernel_rfl) ?_
      refine qs (.pointer (some ⟨g, 0, none⟩)) (by kernel_rfl) (by kernel_rfl) ?_
      refine qs (.pointer (some ⟨g, 1, none⟩)) (by kernel_rfl) (by kernel_rfl) ?_
      refine qs (.int .i64 (f : Int)) (by kernel_rfl) (R_load (p := ⟨g, 1, none⟩) (by kernel_rfl) (by kernel_rfl) (by kernel_rfl) (HS.cell (i := 0) (j := 1) rfl rfl)) ?_
      refine qs (.pointer (some ⟨g, 0, none⟩)) (by kernel_rfl) (by kernel_rfl) ?_
      refine qs (.pointer (some ⟨g, 0, none⟩)) (by kernel_rfl) (by kernel_rfl) ?_
      refine qs (.pointer (some ⟨g, 2, none⟩)) (by kernel_rfl) (by kernel_rfl) ?_
      refine qs (.int .i64 (n : Int)) (by kernel_rfl) (R_load (p := ⟨g, 2, none⟩) (by kernel_rfl) (by kernel_rfl) (by kernel_rfl) (HS.cell (i := 0) (j := 2) rfl rfl)) ?_
      refine qs (.int .i64 ((f : Int) + (n : Int))) (by kernel_rfl) (R_int (by kernel_rfl) (w64 (by omega))) ?_
      refine qs (.pointer (some ⟨g, 0, none⟩)) (by kernel_rfl) (by kernel_rfl) ?_
      refine qs (.pointer (some ⟨g, 0, none⟩)) (by kernel_rfl) (by kernel_rfl) ?_
      refine qs (.pointer (some ⟨g, 0, none⟩)) (by kernel_rfl) (by kernel_rfl) ?_
      refine qs (.slice A bs.length c) (by kernel_rfl) (R_load (p := ⟨g, 0, none⟩) (by kernel_rfl) (by kernel_rfl) (by kernel_rfl) (HS.cell (i := 0) (j := 0) rfl rfl)) ?_
      refine qs (.int .i64 (bs.length : Int)) (by kernel_rfl) (by kernel_rfl) ?_
      obtain ⟨rm, rm_⟩ : ∃ z_ : Nat, z_ = (f + n) % bs.length := ⟨_, rfl⟩
      have rml : rm < bs.length := by rw [rm_]; exact Nat.mod_lt _ (by omega)
      refine qs (.int .i64 (rm : Int)) (by kernel_rfl) (R_eq (R_rem (i := f + n) (j := bs.length) (by kernel_rfl) (by kernel_rfl) (by omega) (by omega)) (by rw [← rm_])) ?_
      refine qs (.string (rdS ys i)) (by kernel_rfl) (by kernel_rfl) ?_
      obtain ⟨g21, rfl⟩ := St.rsome HS (i := 1) rfl (by omega)
      refine qs (.pointer (some ⟨g21, (rm : Int).toNat, none⟩)) (by kernel_rfl) (R_index1 (k := .i64) (g := g21) (n := bs.length) (c := c) (i := (rm : Int)) (by kernel_rfl) (by kernel_rfl) Try.underlying93 (by kernel_rfl) (by omega) (by omega)) ?_
      refine wpStill_nil ?_
      refine kr (v := .string (rdS ys i)) HS 1 rfl ((rm : Int).toNat) [.string (rdS ys i)] (by kernel_rfl) (by kernel_rfl) (by kernel_rfl) (by kernel_rfl) (by kernel_rfl) (one_ (by kernel_rfl)) (by rw [cz_len]; first | omega | (simp only [List.length_singleton]; omega)) rfl ?_
      intro W22 H_
      obtain ⟨xs23, xs23_⟩ : ∃ z_ : List ByteArray, z_ = (bs).set (rm : Int).toNat (rdS ys i) := ⟨_, rfl⟩
      replace HS : St W M W22 [blk g ((.slice (some ⟨g21, 0, none⟩) bs.length c) :: (.int .i64 (f : Int)) :: (.int .i64 (n : Int)) :: rest) tb, row (some ⟨g21, 0, none⟩) bs.length c (cz xs23) 9 1, row (some ⟨g5, 0, none⟩) ys.length d (cz ys) 9 1] := H_.cast_ (by rw [xs23_, ← cz_set]; rfl)
      clear H_
      have xs23l : xs23.length = bs.length := by rw [xs23_, List.length_set]; first | done | omega
      refine wpList_nil ?_
      refine x_then ?_
      refine wp_region_lit ?_
      refine ql (.pointer (some ⟨g, 0, none⟩)) (by kernel_rfl) (by kernel_rfl) ?_
      refine ql (.pointer (some ⟨g, 0, none⟩)) (by kernel_rfl) (by kernel_rfl) ?_
      refine ql (.pointer (some ⟨g, 2, none⟩)) (by kernel_rfl) (by kernel_rfl) ?_
      refine ql (.int .i64 (n : Int)) (by kernel_rfl) (R_load (p := ⟨g, 2, none⟩) (by kernel_rfl) (by kernel_rfl) (by kernel_rfl) (HS.cell (i := 0) (j := 2) rfl rfl)) ?_
      refine ql (.int .i64 ((n : Int) + 1)) (by kernel_rfl) (R_int (by kernel_rfl) (w64 (by omega))) ?_
      refine ql (.pointer (some ⟨g, 0, none⟩)) (by kernel_rfl) (by kernel_rfl) ?_
      refine ql (.pointer (some ⟨g, 2, none⟩)) (by kernel_rfl) (by kernel_rfl) ?_
      refine ks (v := .int .i64 ((n : Int) + 1)) HS 0 rfl (2) [.int .i64 ((n : Int) + 1)] (by kernel_rfl) (by kernel_rfl) (by kernel_rfl) (by kernel_rfl) (by kernel_rfl) (one_ (by kernel_rfl)) (Nat.le_of_ble_eq_true rfl) rfl ?_
      intro W24 H_
      replace HS : St W M W24 [blk g ((.slice (some ⟨g21, 0, none⟩) bs.length c) :: (.int .i64 (f : Int)) :: (.int .i64 ((n : Int) + 1)) :: rest) tb, row (some ⟨g21, 0, none⟩) bs.length c (cz xs23) 9 1, row (some ⟨g5, 0, none⟩) ys.length d (cz ys) 9 1] := H_
      clear H_
      refine wpList_nil ?_
      refine x_inb ?_
      refine x_then ?_
      refine wp_region_lit ?_
      refine ql (.int .i64 (i + 1)) (by kernel_rfl) (R_int (by kernel_rfl) (w64 (by omega))) ?_
      refine ql (.int .i64 (i + 1)) (by kernel_rfl) (by kernel_rfl) ?_
      refine wpList_nil ?_
      have hn2 : (n : Int) + 1 = ((n + 1 : Nat) : Int) := by omega
      rw [hn2] at HS
      rw [← xs23l] at HS
      have hqp := hq.push (v := rdS ys i) (by omega) (q := xs23) (by rw [xs23_, ← rm_]; rfl)
      rw [List.append_assoc, ← take_rdS (xs := ys) i0 (by omega)] at hqp
      refine x_then ?_
      exact ⟨ys.length - (i + 1).toNat, by omega, (fun k_ : Nat => List.getD ((.pointer (some ⟨g, 0, none⟩)) :: (.slice (some ⟨g5, 0, none⟩) ys.length d) :: undef :: undef :: undef :: (.string (rdS ys i)) :: ((J1 6)) :: ((J1 7)) :: (.pointer (some ⟨g, 0, none⟩)) :: (.bool false) :: (.slice (some ⟨g5, 0, none⟩) ys.length d) :: (.int .i64 (ys.length : Int)) :: (.int .i64 (i + 1)) :: (.bool true) :: (.pointer (some ⟨g5, i.toNat, none⟩)) :: (.string (rdS ys i)) :: (.pointer (some ⟨g, 0, none⟩)) :: (.pointer (some ⟨g, 0, none⟩)) :: (.pointer (some ⟨g, 2, none⟩)) :: (.int .i64 (n : Int)) :: (.pointer (some ⟨g, 0, none⟩)) :: (.pointer (some ⟨g, 0, none⟩)) :: (.pointer (some ⟨g, 0, none⟩)) :: (.slice (some ⟨g21, 0, none⟩) bs.length c) :: (.int .i64 (bs.length : Int)) :: (.bool false) :: ((J1 26)) :: ((J1 27)) :: ((J1 28)) :: ((J1 29)) :: ((J1 30)) :: ((J1 31)) :: ((J1 32)) :: ((J1 33)) :: ((J1 34)) :: ((J1 35)) :: ((J1 36)) :: ((J1 37)) :: ((J1 38)) :: ((J1 39)) :: ((J1 40)) :: ((J1 41)) :: ((J1 42)) :: ((J1 43)) :: ((J1 44)) :: ((J1 45)) :: ((J1 46)) :: ((J1 47)) :: ((J1 48)) :: ((J1 49)) :: ((J1 50)) :: ((J1 51)) :: ((J1 52)) :: ((J1 53)) :: ((J1 54)) :: ((J1 55)) :: ((J1 56)) :: ((J1 57)) :: ((J1 58)) :: ((J1 59)) :: ((J1 60)) :: ((J1 61)) :: ((J1 62)) :: ((J1 63)) :: (.pointer (some ⟨g, 0, none⟩)) :: (.pointer (some ⟨g, 0, none⟩)) :: (.pointer (some ⟨g, 0, none⟩)) :: (.slice (some ⟨g21, 0, none⟩) bs.length c) :: (.pointer (some ⟨g, 0, none⟩)) :: (.pointer (some ⟨g, 0, none⟩)) :: (.pointer (some ⟨g, 1, none⟩)) :: (.int .i64 (f : Int)) :: (.pointer (some ⟨g, 0, none⟩)) :: (.pointer (some ⟨g, 0, none⟩)) :: (.pointer (some ⟨g, 2, none⟩)) :: (.int .i64 (n : Int)) :: (.int .i64 ((f : Int) + (n : Int))) :: (.pointer (some ⟨g, 0, none⟩)) :: (.pointer (some ⟨g, 0, none⟩)) :: (.pointer (some ⟨g, 0, none⟩)) :: (.slice (some ⟨g21, 0, none⟩) bs.length c) :: (.int .i64 (bs.length : Int)) :: (.int .i64 (rm : Int)) :: (.string (rdS ys i)) :: (.pointer (some ⟨g21, (rm : Int).toNat, none⟩)) :: (.pointer (some ⟨g, 0, none⟩)) :: (.pointer (some ⟨g, 0, none⟩)) :: (.pointer (some ⟨g, 2, none⟩)) :: (.int .i64 (n : Int)) :: (.int .i64 ((n : Int) + 1)) :: (.pointer (some ⟨g, 0, none⟩)) :: (.pointer (some ⟨g, 2, none⟩)) :: (.int .i64 (i + 1)) :: []) k_ undef), i + 1, some ⟨g21, 0, none⟩, c, f, (n + 1), xs23, congrArg Fr (by kernel_rfl), rfl, by omega, by omega, hqp, HS⟩
  · skip
    refine ql (.bool false) (by kernel_rfl) (R_nbool (p := i < (ys.length : Int)) (by kernel_rfl) (hc4)) ?_
    refine wpList_nil ?_
    refine x_then ?_
    refine wp_seq ?_
    refine wp_cond_false (by kernel_rfl) ?_
    refine wp_exit ?_
    refine x_thenE ?_
    refine x_thenE ?_
    refine x_hit ?_
    refine end_ (.tuple #[]) (by kernel_rfl) ?_
    replace HS : St W M W3 [blk g ((.slice A bs.length c) :: (.int .i64 (f : Int)) :: (.int .i64 (n : Int)) :: rest) tb, row A bs.length c (cz bs) 9 1] := St.tail (F := [row B ys.length d (cz ys) 9 1]) (HS.perm (perm_ [2, 0, 1] (by kernel_rfl) rfl))
    rw [List.take_of_length_le (by omega)] at hq
    exact ⟨_, _, f, n, bs, rfl, HS, hq⟩

set_option maxRecDepth 100000 in
set_option maxHeartbeats 1000000 in
theorem qpushSX (g tb : Nat) (rest : List Value) (A0 B : Option Addr) (c0 d f0 n0 : Nat) (bs0 xs0 ys : List ByteArray) (W : World) (M : Nat → Prop) (HS : St W M W [blk g ((.slice A0 bs0.length c0) :: (.int .i64 (f0 : Int)) :: (.int .i64 (n0 : Int)) :: rest) tb, row A0 bs0.length c0 (cz bs0) 9 1]) (hrd : RdF M W B (cz ys)) (hq0 : RQS bs0 f0 n0 xs0) (hl : xs0.length + ys.length ≤ 1099511627776) : Calls Try.prog 65 #[.pointer (some ⟨g, 0, none⟩), .slice B ys.length d] W fun e W' => ∃ (A' : Option Addr) (c' f' n' : Nat) (bs' : List ByteArray), e = .returned (.tuple #[]) ∧ St W M W' [blk g ((.slice A' bs'.length c') :: (.int .i64 (f' : Int)) :: (.int .i64 (n' : Int)) :: rest) tb, row A' bs'.length c' (cz bs') 9 1] ∧ RQS bs' f' n' (xs0 ++ ys) := by
  refine calls_enter ((.pointer (some ⟨g, 0, none⟩)) :: (.slice B ys.length d) :: undef :: undef :: undef :: undef :: undef :: undef :: undef :: undef :: undef :: undef :: undef :: undef :: undef :: undef :: undef :: undef :: undef :: undef :: undef :: undef :: undef :: undef :: undef :: undef :: undef :: undef :: undef :: undef :: undef :: undef :: undef :: undef :: undef :: undef :: undef :: undef :: undef :: undef :: undef :: undef :: undef :: undef :: undef :: undef :: undef :: undef :: undef :: undef :: undef :: undef :: undef :: undef :: undef :: undef :: undef :: undef :: undef :: undef :: undef :: undef :: undef :: undef :: undef :: undef :: undef :: undef :: undef :: undef :: undef :: undef :: undef :: undef :: undef :: undef :: undef :: undef :: undef :: undef :: undef :: undef :: undef :: undef :: undef :: undef :: undef :: undef :: undef :: undef :: undef :: undef :: undef :: []) Try.func65 rfl (by kernel_rfl) ?_
  refine wp_seq ?_
  refine wp_seq ?_
  refine wp_region_lit ?_
  refine ql (.pointer (some ⟨g, 0, none⟩)) (by kernel_rfl) (by kernel_rfl) ?_
  refine ql (.bool false) (by kernel_rfl) (by kernel_rfl) ?_
  refine wpList_nil ?_
  refine x_then ?_
  refine wp_cond_false (by kernel_rfl) ?_
  refine wp_skip ?_
  refine x_then ?_
  refine wp_seq ?_
  refine wp_region_lit ?_
  refine ql (.slice B ys.length d) (by kernel_rfl) (by kernel_rfl) ?_
  refine ql (.int .i64 (ys.length : Int)) (by kernel_rfl) (by kernel_rfl) ?_
  refine ql (.int .i64 0) (by kernel_rfl) (by kernel_rfl) ?_
  refine wpList_nil ?_
  refine x_then ?_
  refine wp_block ?_
  refine wp_loop_ghost (fun kq a' w' => ∃ (J1 : Nat → Value) (i : Int) (A : Option Addr) (c : Nat) (f : Nat) (n : Nat) (bs : List ByteArray) , a' = Fr ((.pointer (some ⟨g, 0, none⟩)) :: (.slice B ys.length d) :: undef :: undef :: undef :: ((J1 5)) :: ((J1 6)) :: ((J1 7)) :: (.pointer (some ⟨g, 0, none⟩)) :: (.bool false) :: (.slice B ys.length d) :: (.int .i64 (ys.length : Int)) :: (.int .i64 i) :: ((J1 13)) :: ((J1 14)) :: ((J1 15)) :: ((J1 16)) :: ((J1 17)) :: ((J1 18)) :: ((J1 19)) :: ((J1 20)) :: ((J1 21)) :: ((J1 22)) :: ((J1 23)) :: ((J1 24)) :: ((J1 25)) :: ((J1 26)) :: ((J1 27)) :: ((J1 28)) :: ((J1 29)) :: ((J1 30)) :: ((J1 31)) :: ((J1 32)) :: ((J1 33)) :: ((J1 34)) :: ((J1 35)) :: ((J1 36)) :: ((J1 37)) :: ((J1 38)) :: ((J1 39)) :: ((J1 40)) :: ((J1 41)) :: ((J1 42)) :: ((J1 43)) :: ((J1 44)) :: ((J1 45)) :: ((J1 46)) :: ((J1 47)) :: ((J1 48)) :: ((J1 49)) :: ((J1 50)) :: ((J1 51)) :: ((J1 52)) :: ((J1 53)) :: ((J1 54)) :: ((J1 55)) :: ((J1 56)) :: ((J1 57)) :: ((J1 58)) :: ((J1 59)) :: ((J1 60)) :: ((J1 61)) :: ((J1 62)) :: ((J1 63)) :: ((J1 64)) :: ((J1 65)) :: ((J1 66)) :: ((J1 67)) :: ((J1 68)) :: ((J1 69)) :: ((J1 70)) :: ((J1 71)) :: ((J1 72)) :: ((J1 73)) :: ((J1 74)) :: ((J1 75)) :: ((J1 76)) :: ((J1 77)) :: ((J1 78)) :: ((J1 79)) :: ((J1 80)) :: ((J1 81)) :: ((J1 82)) :: ((J1 83)) :: ((J1 84)) :: ((J1 85)) :: ((J1 86)) :: ((J1 87)) :: ((J1 88)) :: ((J1 89)) :: ((J1 90)) :: ((J1 91)) :: ((J1 92)) :: []) ∧ kq = (ys.length - (i).toNat) ∧ (0 ≤ i) ∧ (i ≤ ys.length) ∧ (RQS bs f n (xs0 ++ ys.take (i).toNat)) ∧ St W M w' [blk g ((.slice A bs.length c) :: (.int .i64 (f : Int)) :: (.int .i64 (n : Int)) :: rest) tb, row A bs.length c (cz bs) 9 1]) (ys.length - ((0 : Int)).toNat) ⟨(fun k_ : Nat => List.getD ((.pointer (some ⟨g, 0, none⟩)) :: (.slice B ys.length d) :: undef :: undef :: undef :: undef :: undef :: undef :: (.pointer (some ⟨g, 0, none⟩)) :: (.bool false) :: (.slice B ys.length d) :: (.int .i64 (ys.length : Int)) :: (.int .i64 0) :: undef :: undef :: undef :: undef :: undef :: undef :: undef :: undef :: undef :: undef :: undef :: undef :: undef :: undef :: undef :: undef :: undef :: undef :: undef :: undef :: undef :: undef :: undef :: undef :: undef :: undef :: undef :: undef :: undef :: undef :: undef :: undef :: undef :: undef :: undef :: undef :: undef :: undef :: undef :: undef :: undef :: undef :: undef :: undef :: undef :: undef :: undef :: undef :: undef :: undef :: undef :: undef :: undef :: undef :: undef :: undef :: undef :: undef :: undef :: undef :: undef :: undef :: undef :: undef :: undef :: undef :: undef :: undef :: undef :: undef :: undef :: undef :: undef :: undef :: undef :: undef :: undef :: undef :: undef :: undef :: []) k_ undef), (0 : Int), A0, c0, f0, n0, bs0, congrArg Fr (by kernel_rfl), rfl, by omega, by omega, by simpa using hq0, HS⟩ ?_
  clear HS
  intro kq2 a' W3 hrel
  obtain ⟨J1, i, A, c, f, n, bs, rfl, hk, i0, i1, hq, HS⟩ := hrel
  have hlen := hq.len
  have hqn := hq.hn
  have hqb := hq.hb
  have hqf := hq.hf
  have hq0 := hq.h0
  have hxl : (xs0 ++ ys.take i.toNat).length ≤ xs0.length + ys.length := by rw [List.length_append, List.length_take]; omega
  refine wp_seq ?_
  refine wp_region_lit ?_
  by_cases hc4 : i < (ys.length : Int)
  · skip
    refine ql (.bool true) (by kernel_rfl) (R_bool (p := i < (ys.length : Int)) (by kernel_rfl) (hc4)) ?_
    refine wpList_nil ?_
    refine x_then ?_
    refine wp_seq ?_
    refine wp_cond_true (by kernel_rfl) ?_
    refine wp_skip ?_
    refine x_then ?_
    refine wp_seq ?_
    refine wp_block ?_
    refine wp_seq ?_
    refine wp_region_lit ?_
    obtain ⟨ad5, rfl⟩ := Rd.isSome_ (hrd.old0 HS) (by rw [cz_len]; omega)
    refine ql (.pointer (some (ad5.add i.toNat))) (by kernel_rfl) (R_indexA1 (k := .i64) (p := ad5) (n := ys.length) (c := d) (i := i) (by kernel_rfl) (by kernel_rfl) Try.underlying93 (by kernel_rfl) (by omega) (by omega)) ?_
    refine ql (.string (rdS ys i)) (by kernel_rfl) (R_load (p := ad5.add i.toNat) (by kernel_rfl) (by kernel_rfl) (by kernel_rfl) ((hrd.old0 HS).at_ (cz_rd (i := i) (by omega) (by omega)))) ?_
    refine ql (.string (rdS ys i)) (by kernel_rfl) (by kernel_rfl) ?_
    refine wpList_nil ?_
    refine x_then ?_
    refine wp_seq ?_
    refine wp_seq ?_
    refine rg_still HS 9 (by kernel_rfl) (by kernel_rfl) ?_
    intro W6 H_ HK_
    simp only [List.take_succ_cons, List.take_zero, List.drop_succ_cons, List.drop_zero]
    replace HS : St W M W6 [blk g ((.slice A bs.length c) :: (.int .i64 (f : Int)) :: (.int .i64 (n : Int)) :: rest) tb, row A bs.length c (cz bs) 9 1] := H_
    clear H_
    clear HK_
    refine qs (.pointer (some ⟨g, 0, none⟩)) (by kernel_rfl) (by kernel_rfl) ?_
    refine qs (.pointer (some ⟨g, 0, none⟩)) (by kernel_rfl) (by kernel_rfl) ?_
    refine qs (.pointer (some ⟨g, 2, none⟩)) (by kernel_rfl) (by kernel_rfl) ?_
    refine qs (.int .i64 (n : Int)) (by kernel_rfl) (R_load (p := ⟨g, 2, none⟩) (by kernel_rfl) (by kernel_rfl) (by kernel_rfl) (HS.cell (i := 0) (j := 2) rfl rfl)) ?_
    refine qs (.pointer (some ⟨g, 0, none⟩)) (by kernel_rfl) (by kernel_rfl) ?_
    refine qs (.pointer (some ⟨g, 0, none⟩)) (by kernel_rfl) (by kernel_rfl) ?_
    refine qs (.pointer (some ⟨g, 0, none⟩)) (by kernel_rfl) (by kernel_rfl) ?_
    refine qs (.slice A bs.length c) (by kernel_rfl) (R_load (p := ⟨g, 0, none⟩) (by kernel_rfl) (by kernel_rfl) (by kernel_rfl) (HS.cell (i := 0) (j := 0) rfl rfl)) ?_
    refine qs (.int .i64 (bs.length : Int)) (by kernel_rfl) (by kernel_rfl) ?_
    refine wpStill_nil ?_
    by_cases hc7 : (n : Int) = (bs.length : Int)
    · skip
      refine ql (.bool true) (by kernel_rfl) (R_beq (b := ((n : Int) == (bs.length : Int))) (by kernel_rfl) (beq_t (hc7))) ?_
      refine wpList_nil ?_
      refine x_then ?_
      refine wp_cond_true (by kernel_rfl) ?_
      refine wp_seq ?_
      refine wp_region_lit ?_
      refine ql (.pointer (some ⟨g, 0, none⟩)) (by kernel_rfl) (by kernel_rfl) ?_
      refine ql (.pointer (some ⟨g, 0, none⟩)) (by kernel_rfl) (by kernel_rfl) ?_
      refine ql (.pointer (some ⟨g, 2, none⟩)) (by kernel_rfl) (by kernel_rfl) ?_
      refine ql (.int .i64 (n : Int)) (by kernel_rfl) (R_load (p := ⟨g, 2, none⟩) (by kernel_rfl) (by kernel_rfl) (by kernel_rfl) (HS.cell (i := 0) (j := 2) rfl rfl)) ?_
      refine ql (.int .i64 (2 * (n : Int))) (by kernel_rfl) (R_int (by kernel_rfl) (w64 (by omega))) ?_
      obtain ⟨m, hm⟩ : ∃ z_ : Nat, (z_ : Int) = max (4 : Int) (2 * (n : Int)) := ⟨(max (4 : Int) (2 * (n : Int))).toNat, by omega⟩
      have hm1 : 4 ≤ m ∧ 2 * n ≤ m ∧ m ≤ 2199023255556 := by omega
      refine ql (.int .i64 (m : Int)) (by kernel_rfl) (R_eq (R_max (i := 4) (j := 2 * (n : Int)) (by kernel_rfl) (by kernel_rfl)) (by rw [hm])) ?_
      refine km HS (m) [.string ByteArray.empty] 16 (by kernel_rfl) (k_eq (k := .i64) (m := (m : Int)) (by kernel_rfl) (by omega)) (k_eq (k := .i64) (m := (m : Int)) (by kernel_rfl) (by omega)) Try.underlying93 (by kernel_rfl) (by kernel_rfl) (by kernel_rfl) (by decide) (by omega) (by omega) ?_
      intro g8 W9 H_
      replace HS : St W M W9 [row (some ⟨g8, 0, none⟩) m m (cz (List.replicate (m) ByteArray.empty)) 9 1, blk g ((.slice A bs.length c) :: (.int .i64 (f : Int)) :: (.int .i64 (n : Int)) :: rest) tb, row A bs.length c (cz bs) 9 1] := H_.cast_ (by rw [cz_rep]; rfl)
      clear H_
      have rlg8 : (List.replicate (m) (ByteArray.empty : ByteArray)).length = m := List.length_replicate
      refine ql (.slice (some ⟨g8, 0, none⟩) m m) (by kernel_rfl) (by kernel_rfl) ?_
      refine wpList_nil ?_
      refine x_then ?_
      refine wp_seq ?_
      refine rg_still HS 10 (by kernel_rfl) (by kernel_rfl) ?_
      intro W10 H_ HK_
      simp only [List.take_succ_cons, List.take_zero, List.drop_succ_cons, List.drop_zero]
      replace HS : St W M W10 [row (some ⟨g8, 0, none⟩) m m (cz (List.replicate (m) ByteArray.empty)) 9 1, blk g ((.slice A bs.length c) :: (.int .i64 (f : Int)) :: (.int .i64 (n : Int)) :: rest) tb, row A bs.length c (cz bs) 9 1] := H_
      clear H_
      clear HK_
      refine qs (.slice (some ⟨g8, 0, none⟩) m m) (by kernel_rfl) (by kernel_rfl) ?_
      refine qs (.pointer (some ⟨g, 0, none⟩)) (by kernel_rfl) (by kernel_rfl) ?_
      refine qs (.pointer (some ⟨g, 0, none⟩)) (by kernel_rfl) (by kernel_rfl) ?_
      refine qs (.pointer (some ⟨g, 0, none⟩)) (by kernel_rfl) (by kernel_rfl) ?_
      refine qs (.slice A bs.length c) (by kernel_rfl) (R_load (p := ⟨g, 0, none⟩) (by kernel_rfl) (by kernel_rfl) (by kernel_rfl) (HS.cell (i := 1) (j := 0) rfl rfl)) ?_
      refine qs (.pointer (some ⟨g, 0, none⟩)) (by kernel_rfl) (by kernel_rfl) ?_
      refine qs (.pointer (some ⟨g, 0, none⟩)) (by kernel_rfl) (by kernel_rfl) ?_
      refine qs (.pointer (some ⟨g, 1, none⟩)) (by kernel_rfl) (by kernel_rfl) ?_
      refine qs (.int .i64 (f : Int)) (by kernel_rfl) (R_load (p := ⟨g, 1, none⟩) (by kernel_rfl) (by kernel_rfl) (by kernel_rfl) (HS.cell (i := 1) (j := 1) rfl rfl)) ?_
      refine qs (.slice (cutA A c f 1) (bs.length - f) (c - f)) (by kernel_rfl) (R_sliceL (k := .i64) (A := A) (n := bs.length) (c := c) (i := (f : Int)) (by kernel_rfl) (by kernel_rfl) Try.underlying93 (by kernel_rfl) (by omega) (by omega)) ?_
      refine wpStill_nil ?_
      refine kcp HS 0 rfl 0 m m (Src.tail (m := f) (Src.of_row HS (i := 2) rfl cz_one) (by omega) (St.rcap HS (i := 2) rfl).1) (by omega) (by rw [cz_len, List.length_replicate]; omega) (by kernel_rfl) (by kernel_rfl) (by kernel_rfl) Try.underlying93 (by kernel_rfl) ?_
      intro W11 H_
      obtain ⟨q1, q1_⟩ : ∃ z_ : List ByteArray, z_ = (List.replicate m ByteArray.empty).take 0 ++ bs.drop f ++ (List.replicate m ByteArray.empty).drop (0 + (bs.drop f).length) := ⟨_, rfl⟩
      have hsp : splice (cz (List.replicate m ByteArray.empty)) 0 ((cz bs).drop f) = cz q1 := by rw [cz_drop, cz_splice (by rw [List.length_drop, List.length_replicate]; omega), q1_]
      have q1l : q1.length = m := by rw [q1_]; simp; omega
      rw [hsp] at H_
      replace HS : St W M W11 [row (some ⟨g8, 0, none⟩) m m (cz q1) 9 1, blk g ((.slice A bs.length c) :: (.int .i64 (f : Int)) :: (.int .i64 (n : Int)) :: rest) tb, row A bs.length c (cz bs) 9 1] := H_.cast_ (by rfl)
      clear H_
      refine ql (.int .i64 ((bs.length - f : Nat) : Int)) (by kernel_rfl) (by kernel_rfl) ?_
      refine wpList_nil ?_
      refine x_then ?_
      refine wp_seq ?_
      have hcap := (St.rcap HS (i := 2) rfl).1
      refine rg_still HS 12 (by kernel_rfl) (by kernel_rfl) ?_
      intro W12 H_ HK_
      simp only [List.take_succ_cons, List.take_zero, List.drop_succ_cons, List.drop_zero]
      replace HS : St W M W12 [row (some ⟨g8, 0, none⟩) m m (cz q1) 9 1, blk g ((.slice A bs.length c) :: (.int .i64 (f : Int)) :: (.int .i64 (n : Int)) :: rest) tb, row A bs.length c (cz bs) 9 1] := H_
      clear H_
      clear HK_
      refine qs (.slice (some ⟨g8, 0, none⟩) m m) (by kernel_rfl) (by kernel_rfl) ?_
      refine qs (.int .i64 ((bs.length - f : Nat) : Int)) (by kernel_rfl) (by kernel_rfl) ?_
      refine qs (.slice (some ⟨g8, (bs.length - f), none⟩) (m - (bs.length - f)) (m - (bs.length - f))) (by kernel_rfl) (R_eq (R_sliceL (k := .i64) (A := some ⟨g8, 0, none⟩) (n := m) (c := m) (i := ((bs.length - f : Nat) : Int)) (by kernel_rfl) (by kernel_rfl) Try.underlying93 (by kernel_rfl) (by omega) (by omega)) (by rw [Int.toNat_natCast, cutA_blk (by omega)])) ?_
      refine qs (.pointer (some ⟨g, 0, none⟩)) (by kernel_rfl) (by kernel_rfl) ?_
      refine qs (.pointer (some ⟨g, 0, none⟩)) (by kernel_rfl) (by kernel_rfl) ?_
      refine qs (.pointer (some ⟨g, 0, none⟩)) (by kernel_rfl) (by kernel_rfl) ?_
      refine qs (.slice A bs.length c) (by kernel_rfl) (R_load (p := ⟨g, 0, none⟩) (by kernel_rfl) (by kernel_rfl) (by kernel_rfl) (HS.cell (i := 1) (j := 0) rfl rfl)) ?_
      refine qs (.pointer (some ⟨g, 0, none⟩)) (by kernel_rfl) (by kernel_rfl) ?_
      refine qs (.pointer (some ⟨g, 0, none⟩)) (by kernel_rfl) (by kernel_rfl) ?_
      refine qs (.pointer (some ⟨g, 1, none⟩)) (by kernel_rfl) (by kernel_rfl) ?_
      refine qs (.int .i64 (f : Int)) (by kernel_rfl) (R_load (p := ⟨g, 1, none⟩) (by kernel_rfl) (by kernel_rfl) (by kernel_rfl) (HS.cell (i := 1) (j := 1) rfl rfl)) ?_
      refine qs (.slice A f c) (by kernel_rfl) (R_sliceH (z := 1) (e := 9) (k := .i64) (A := A) (n := bs.length) (c := c) (i := (f : Int)) (by kernel_rfl) (by kernel_rfl) Try.underlying93 (by kernel_rfl) (by omega) (by omega)) ?_
      refine wpStill_nil ?_
      refine kcp HS 0 rfl (bs.length - f) (m - (bs.length - f)) (m - (bs.length - f)) (Src.head (m := f) (Src.of_row HS (i := 2) rfl cz_one) (by omega)) (by omega) (by rw [cz_len]; omega) (by kernel_rfl) (by kernel_rfl) (by kernel_rfl) Try.underlying93 (by kernel_rfl) ?_
      intro W13 H_
      obtain ⟨q2, q2_⟩ : ∃ z_ : List ByteArray, z_ = q1.take (bs.length - f) ++ bs.take f ++ q1.drop (bs.length - f + (bs.take f).length) := ⟨_, rfl⟩
      have hsp2 : splice (cz q1) (bs.length - f) ((cz bs).take f) = cz q2 := by rw [cz_take', cz_splice (by rw [List.length_take]; omega), q2_]
      have q2l : q2.length = m := by rw [q2_]; simp; omega
      have q2e : q2 = bs.drop f ++ bs.take f ++ List.replicate (m - bs.length) ByteArray.empty := ringS_copy (by omega) (by omega) q1_ q2_
      rw [hsp2] at H_
      replace HS : St W M W13 [row (some ⟨g8, 0, none⟩) m m (cz q2) 9 1, blk g ((.slice A bs.length c) :: (.int .i64 (f : Int)) :: (.int .i64 (n : Int)) :: rest) tb, row A bs.length c (cz bs) 9 1] := H_.cast_ (by rfl)
      clear H_
      refine wpList_nil ?_
      refine x_then ?_
      refine wp_region_lit ?_
      refine ql (.pointer (some ⟨g, 0, none⟩)) (by kernel_rfl) (by kernel_rfl) ?_
      refine ql (.pointer (some ⟨g, 0, none⟩)) (by kernel_rfl) (by kernel_rfl) ?_
      refine ql (.slice (some ⟨g8, 0, none⟩) m m) (by kernel_rfl) (by kernel_rfl) ?_
      refine ql (.pointer (some ⟨g, 0, none⟩)) (by kernel_rfl) (by kernel_rfl) ?_
      refine ql (.pointer (some ⟨g, 0, none⟩)) (by kernel_rfl) (by kernel_rfl) ?_
      refine ks (v := .slice (some ⟨g8, 0, none⟩) m m) HS 1 rfl (0) [.slice (some ⟨g8, 0, none⟩) m m] (by kernel_rfl) (by kernel_rfl) (by kernel_rfl) (by kernel_rfl) (by kernel_rfl) (one_ (by kernel_rfl)) (Nat.le_of_ble_eq_true rfl) rfl ?_
      intro W14 H_
      replace HS : St W M W14 [row (some ⟨g8, 0, none⟩) m m (cz q2) 9 1, blk g ((.slice (some ⟨g8, 0, none⟩) m m) :: (.int .i64 (f : Int)) :: (.int .i64 (n : Int)) :: rest) tb, row A bs.length c (cz bs) 9 1] := H_
      clear H_
      refine ql (.pointer (some ⟨g, 0, none⟩)) (by kernel_rfl) (by kernel_rfl) ?_
      refine ql (.pointer (some ⟨g, 1, none⟩)) (by kernel_rfl) (by kernel_rfl) ?_
      refine ks (v := .int .i64 0) HS 1 rfl (1) [.int .i64 0] (by kernel_rfl) (by kernel_rfl) (by kernel_rfl) (by kernel_rfl) (by kernel_rfl) (one_ (by kernel_rfl)) (Nat.le_of_ble_eq_true rfl) rfl ?_
      intro W15 H_
      replace HS : St W M W15 [row (some ⟨g8, 0, none⟩) m m (cz q2) 9 1, blk g ((.slice (some ⟨g8, 0, none⟩) m m) :: (.int .i64 0) :: (.int .i64 (n : Int)) :: rest) tb, row A bs.length c (cz bs) 9 1] := H_
      clear H_
      refine wpList_nil ?_
      refine x_then ?_
      refine wp_seq ?_
      subst q2l
      have hqg := hq.grow (by omega) q2e (by omega) (by omega)
      refine rg_still HS 21 (by kernel_rfl) (by kernel_rfl) ?_
      intro W16 H_ HK_
      simp only [List.take_succ_cons, List.take_zero, List.drop_succ_cons, List.drop_zero]
      replace HS : St W M W16 [row (some ⟨g8, 0, none⟩) q2.length q2.length (cz q2) 9 1, blk g ((.slice (some ⟨g8, 0, none⟩) q2.length q2.length) :: (.int .i64 0) :: (.int .i64 (n : Int)) :: rest) tb, row A bs.length c (cz bs) 9 1] := H_
      clear H_
      clear HK_
      refine qs (.pointer (some ⟨g, 0, none⟩)) (by kernel_rfl) (by kernel_rfl) ?_
      refine qs (.pointer (some ⟨g, 0, none⟩)) (by kernel_rfl) (by kernel_rfl) ?_
      refine qs (.pointer (some ⟨g, 0, none⟩)) (by kernel_rfl) (by kernel_rfl) ?_
      refine qs (.slice (some ⟨g8, 0, none⟩) q2.length q2.length) (by kernel_rfl) (R_load (p := ⟨g, 0, none⟩) (by kernel_rfl) (by kernel_rfl) (by kernel_rfl) (HS.cell (i := 1) (j := 0) rfl rfl)) ?_
      refine qs (.pointer (some ⟨g, 0, none⟩)) (by kernel_rfl) (by kernel_rfl) ?_
      refine qs (.pointer (some ⟨g, 0, none⟩)) (by kernel_rfl) (by kernel_rfl) ?_
      refine qs (.pointer (some ⟨g, 1, none⟩)) (by kernel_rfl) (by kernel_rfl) ?_
      refine qs (.int .i64 0) (by kernel_rfl) (R_load (p := ⟨g, 1, none⟩) (by kernel_rfl) (by kernel_rfl) (by kernel_rfl) (HS.cell (i := 1) (j := 1) rfl rfl)) ?_
      refine qs (.pointer (some ⟨g, 0, none⟩)) (by kernel_rfl) (by kernel_rfl) ?_
      refine qs (.pointer (some ⟨g, 0, none⟩)) (by kernel_rfl) (by kernel_rfl) ?_
      refine qs (.pointer (some ⟨g, 2, none⟩)) (by kernel_rfl) (by kernel_rfl) ?_
      refine qs (.int .i64 (n : Int)) (by kernel_rfl) (R_load (p := ⟨g, 2, none⟩) (by kernel_rfl) (by kernel_rfl) (by kernel_rfl) (HS.cell (i := 1) (j := 2) rfl rfl)) ?_
      refine qs (.int .i64 (0 + (n : Int))) (by kernel_rfl) (R_int (by kernel_rfl) (w64 (by omega))) ?_
      refine qs (.pointer (some ⟨g, 0, none⟩)) (by kernel_rfl) (by kernel_rfl) ?_
      refine qs (.pointer (some ⟨g, 0, none⟩)) (by kernel_rfl) (by kernel_rfl) ?_
      refine qs (.pointer (some ⟨g, 0, none⟩)) (by kernel_rfl) (by kernel_rfl) ?_
      refine qs (.slice (some ⟨g8, 0, none⟩) q2.length q2.length) (by kernel_rfl) (R_load (p := ⟨g, 0, none⟩) (by kernel_rfl) (by kernel_rfl) (by kernel_rfl) (HS.cell (i := 1) (j := 0) rfl rfl)) ?_
      refine qs (.int .i64 (q2.length : Int)) (by kernel_rfl) (by kernel_rfl) ?_
      obtain ⟨rm, rm_⟩ : ∃ z_ : Nat, z_ = (0 + n) % q2.length := ⟨_, rfl⟩
      have rml : rm < q2.length := by rw [rm_]; exact Nat.mod_lt _ (by omega)
      refine qs (.int .i64 (rm : Int)) (by kernel_rfl) (R_eq (R_rem (i := 0 + n) (j := q2.length) (by kernel_rfl) (by kernel_rfl) (by omega) (by omega)) (by rw [← rm_])) ?_
      refine qs (.string (rdS ys i)) (by kernel_rfl) (by kernel_rfl) ?_
      refine qs (.pointer (some ⟨g8, (rm : Int).toNat, none⟩)) (by kernel_rfl) (R_index1 (k := .i64) (g := g8) (n := q2.length) (c := q2.length) (i := (rm : Int)) (by kernel_rfl) (by kernel_rfl) Try.underlying93 (by kernel_rfl) (by omega) (by omega)) ?_
      refine wpStill_nil ?_
      refine kr (v := .string (rdS ys i)) HS 0 rfl ((rm : Int).toNat) [.string (rdS ys i)] (by kernel_rfl) (by kernel_rfl) (by kernel_rfl) (by kernel_rfl) (by kernel_rfl) (one_ (by kernel_rfl)) (by rw [cz_len]; first | omega | (simp only [List.length_singleton]; omega)) rfl ?_
      intro W17 H_
      obtain ⟨xs18, xs18_⟩ : ∃ z_ : List ByteArray, z_ = (q2).set (rm : Int).toNat (rdS ys i) := ⟨_, rfl⟩
      replace HS : St W M W17 [row (some ⟨g8, 0, none⟩) q2.length q2.length (cz xs18) 9 1, blk g ((.slice (some ⟨g8, 0, none⟩) q2.length q2.length) :: (.int .i64 0) :: (.int .i64 (n : Int)) :: rest) tb, row A bs.length c (cz bs) 9 1] := H_.cast_ (by rw [xs18_, ← cz_set]; rfl)
      clear H_
      have xs18l : xs18.length = q2.length := by rw [xs18_, List.length_set]; first | done | omega
      refine wpList_nil ?_
      refine x_then ?_
      refine wp_region_lit ?_
      refine ql (.pointer (some ⟨g, 0, none⟩)) (by kernel_rfl) (by kernel_rfl) ?_
      refine ql (.pointer (some ⟨g, 0, none⟩)) (by kernel_rfl) (by kernel_rfl) ?_
      refine ql (.pointer (some ⟨g, 2, none⟩)) (by kernel_rfl) (by kernel_rfl) ?_
      refine ql (.int .i64 (n : Int)) (by kernel_rfl) (R_load (p := ⟨g, 2, none⟩) (by kernel_rfl) (by kernel_rfl) (by kernel_rfl) (HS.cell (i := 1) (j := 2) rfl rfl)) ?_
      refine ql (.int .i64 ((n : Int) + 1)) (by kernel_rfl) (R_int (by kernel_rfl) (w64 (by omega))) ?_
      refine ql (.pointer (some ⟨g, 0, none⟩)) (by kernel_rfl) (by kernel_rfl) ?_
      refine ql (.pointer (some ⟨g, 2, none⟩)) (by kernel_rfl) (by kernel_rfl) ?_
      refine ks (v := .int .i64 ((n : Int) + 1)) HS 1 rfl (2) [.int .i64 ((n : Int) + 1)] (by kernel_rfl) (by kernel_rfl) (by kernel_rfl) (by kernel_rfl) (by kernel_rfl) (one_ (by kernel_rfl)) (Nat.le_of_ble_eq_true rfl) rfl ?_
      intro W19 H_
      replace HS : St W M W19 [row (some ⟨g8, 0, none⟩) q2.length q2.length (cz xs18) 9 1, blk g ((.slice (some ⟨g8, 0, none⟩) q2.length q2.length) :: (.int .i64 0) :: (.int .i64 ((n : Int) + 1)) :: rest) tb, row A bs.length c (cz bs) 9 1] := H_
      clear H_
      refine wpList_nil ?_
      refine x_inb ?_
      refine x_then ?_
      refine wp_region_lit ?_
      refine ql (.int .i64 (i + 1)) (by kernel_rfl) (R_int (by kernel_rfl) (w64 (by omega))) ?_
      refine ql (.int .i64 (i + 1)) (by kernel_rfl) (by kernel_rfl) ?_
      refine wpList_nil ?_
      replace HS : St W M W19 [blk g ((.slice (some ⟨g8, 0, none⟩) q2.length q2.length) :: (.int .i64 0) :: (.int .i64 ((n : Int) + 1)) :: rest) tb, row (some ⟨g8, 0, none⟩) q2.length q2.length (cz xs18) 9 1] := St.tail (F := [row A bs.length c (cz bs) 9 1]) (HS.perm (perm_ [2, 1, 0] (by kernel_rfl) rfl))
      have hn2 : (n : Int) + 1 = ((n + 1 : Nat) : Int) := by omega
      rw [hn2] at HS
      rw [← xs18l] at HS
      have hqp := hqg.push (v := rdS ys i) (by omega) (q := xs18) (by rw [xs18_, ← rm_]; rfl)
      rw [List.append_assoc, ← take_rdS (xs := ys) i0 (by omega)] at hqp
      refine x_then ?_
      exact ⟨ys.length - (i + 1).toNat, by omega, (fun k_ : Nat => List.getD ((.pointer (some ⟨g, 0, none⟩)) :: (.slice (some ad5) ys.length d) :: undef :: undef :: undef :: (.string (rdS ys i)) :: (.slice (some ⟨g8, 0, none⟩) q2.length q2.length) :: (.int .i64 ((bs.length - f : Nat) : Int)) :: (.pointer (some ⟨g, 0, none⟩)) :: (.bool false) :: (.slice (some ad5) ys.length d) :: (.int .i64 (ys.length : Int)) :: (.int .i64 (i + 1)) :: (.bool true) :: (.pointer (some (ad5.add i.toNat))) :: (.string (rdS ys i)) :: (.pointer (some ⟨g, 0, none⟩)) :: (.pointer (some ⟨g, 0, none⟩)) :: (.pointer (some ⟨g, 2, none⟩)) :: (.int .i64 (n : Int)) :: (.pointer (some ⟨g, 0, none⟩)) :: (.pointer (some ⟨g, 0, none⟩)) :: (.pointer (some ⟨g, 0, none⟩)) :: (.slice A bs.length c) :: (.int .i64 (bs.length : Int)) :: (.bool true) :: (.pointer (some ⟨g, 0, none⟩)) :: (.pointer (some ⟨g, 0, none⟩)) :: (.pointer (some ⟨g, 2, none⟩)) :: (.int .i64 (n : Int)) :: (.int .i64 (2 * (n : Int))) :: (.int .i64 (q2.length : Int)) :: (.slice (some ⟨g8, 0, none⟩) q2.length q2.length) :: (.slice (some ⟨g8, 0, none⟩) q2.length q2.length) :: (.pointer (some ⟨g, 0, none⟩)) :: (.pointer (some ⟨g, 0, none⟩)) :: (.pointer (some ⟨g, 0, none⟩)) :: (.slice A bs.length c) :: (.pointer (some ⟨g, 0, none⟩)) :: (.pointer (some ⟨g, 0, none⟩)) :: (.pointer (some ⟨g, 1, none⟩)) :: (.int .i64 (f : Int)) :: (.slice (cutA A c f 1) (bs.length - f) (c - f)) :: (.int .i64 ((bs.length - f : Nat) : Int)) :: (.slice (some ⟨g8, 0, none⟩) q2.length q2.length) :: (.int .i64 ((bs.length - f : Nat) : Int)) :: (.slice (some ⟨g8, (bs.length - f), none⟩) (q2.length - (bs.length - f)) (q2.length - (bs.length - f))) :: (.pointer (some ⟨g, 0, none⟩)) :: (.pointer (some ⟨g, 0, none⟩)) :: (.pointer (some ⟨g, 0, none⟩)) :: (.slice A bs.length c) :: (.pointer (some ⟨g, 0, none⟩)) :: (.pointer (some ⟨g, 0, none⟩)) :: (.pointer (some ⟨g, 1, none⟩)) :: (.int .i64 (f : Int)) :: (.slice A f c) :: (.int .i64 (f : Int)) :: (.pointer (some ⟨g, 0, none⟩)) :: (.pointer (some ⟨g, 0, none⟩)) :: (.slice (some ⟨g8, 0, none⟩) q2.length q2.length) :: (.pointer (some ⟨g, 0, none⟩)) :: (.pointer (some ⟨g, 0, none⟩)) :: (.pointer (some ⟨g, 0, none⟩)) :: (.pointer (some ⟨g, 1, none⟩)) :: (.pointer (some ⟨g, 0, none⟩)) :: (.pointer (some ⟨g, 0, none⟩)) :: (.pointer (some ⟨g, 0, none⟩)) :: (.slice (some ⟨g8, 0, none⟩) q2.length q2.length) :: (.pointer (some ⟨g, 0, none⟩)) :: (.pointer (some ⟨g, 0, none⟩)) :: (.pointer (some ⟨g, 1, none⟩)) :: (.int .i64 0) :: (.pointer (some ⟨g, 0, none⟩)) :: (.pointer (some ⟨g, 0, none⟩)) :: (.pointer (some ⟨g, 2, none⟩)) :: (.int .i64 (n : Int)) :: (.int .i64 (0 + (n : Int))) :: (.pointer (some ⟨g, 0, none⟩)) :: (.pointer (some ⟨g, 0, none⟩)) :: (.pointer (some ⟨g, 0, none⟩)) :: (.slice (some ⟨g8, 0, none⟩) q2.length q2.length) :: (.int .i64 (q2.length : Int)) :: (.int .i64 (rm : Int)) :: (.string (rdS ys i)) :: (.pointer (some ⟨g8, (rm : Int).toNat, none⟩)) :: (.pointer (some ⟨g, 0, none⟩)) :: (.pointer (some ⟨g, 0, none⟩)) :: (.pointer (some ⟨g, 2, none⟩)) :: (.int .i64 (n : Int)) :: (.int .i64 ((n : Int) + 1)) :: (.pointer (some ⟨g, 0, none⟩)) :: (.pointer (some ⟨g, 2, none⟩)) :: (.int .i64 (i + 1)) :: []) k_ undef), i + 1, some ⟨g8, 0, none⟩, xs18.length, 0, (n + 1), xs18, congrArg Fr (by kernel_rfl), rfl, by omega, by omega, hqp, HS⟩
    · skip
      refine ql (.bool false) (by kernel_rfl) (R_beq (b := ((n : Int) == (bs.length : Int))) (by kernel_rfl) (beq_f (hc7))) ?_
      refine wpList_nil ?_
      refine x_then ?_
      refine wp_cond_false (by kernel_rfl) ?_
      refine wp_skip ?_
      refine x_then ?_
      refine wp_seq ?_
      refine rg_still HS 21 (by kernel_rfl) (by kernel_rfl) ?_
      intro W20 H_ HK_
      simp only [List.take_succ_cons, List.take_zero, List.drop_succ_cons, List.drop_zero]
      replace HS : St W M W20 [blk g ((.slice A bs.length c) :: (.int .i64 (f : Int)) :: (.int .i64 (n : Int)) :: rest) tb, row A bs.length c (cz bs) 9 1] := H_
      clear H_
      clear HK_
      refine qs (.pointer (some ⟨g, 0, none⟩)) (by kernel_rfl) (by kernel_rfl) ?_
      refine qs (.pointer (some ⟨g, 0, none⟩)) (by kernel_rfl) (by kernel_rfl) ?_
      refine qs (.pointer (some ⟨g, 0, none⟩)) (by kernel_rfl) (by kernel_rfl) ?_
      refine qs (.slice A bs.length c) (by kernel_rfl) (R_load (p := ⟨g, 0, none⟩) (by kernel_rfl) (by kernel_rfl) (by kernel_rfl) (HS.cell (i := 0) (j := 0) rfl rfl)) ?_
      refine qs (.pointer (some ⟨g, 0, none⟩)) (by kernel_rfl) (by kernel_rfl) ?_
      refine qs (.pointer (some ⟨g, 0, none⟩)) (by kernel_rfl) (by kernel_rfl) ?_
      refine qs (.pointer (some ⟨g, 1, none⟩)) (by kernel_rfl) (by kernel_rfl) ?_
      refine qs (.int .i64 (f : Int)) (by kernel_rfl) (R_load (p := ⟨g, 1, none⟩) (by kernel_rfl) (by kernel_rfl) (by kernel_rfl) (HS.cell (i := 0) (j := 1) rfl rfl)) ?_
      refine qs (.pointer (some ⟨g, 0, none⟩)) (by kernel_rfl) (by kernel_rfl) ?_
      refine qs (.pointer (some ⟨g, 0, none⟩)) (by kernel_rfl) (by kernel_rfl) ?_
      refine qs (.pointer (some ⟨g, 2, none⟩)) (by kernel_rfl) (by kernel_rfl) ?_
      refine qs (.int .i64 (n : Int)) (by kernel_rfl) (R_load (p := ⟨g, 2, none⟩) (by kernel_rfl) (by kernel_rfl) (by kernel_rfl) (HS.cell (i := 0) (j := 2) rfl rfl)) ?_
      refine qs (.int .i64 ((f : Int) + (n : Int))) (by kernel_rfl) (R_int (by kernel_rfl) (w64 (by omega))) ?_
      refine qs (.pointer (some ⟨g, 0, none⟩)) (by kernel_rfl) (by kernel_rfl) ?_
      refine qs (.pointer (some ⟨g, 0, none⟩)) (by kernel_rfl) (by kernel_rfl) ?_
      refine qs (.pointer (some ⟨g, 0, none⟩)) (by kernel_rfl) (by kernel_rfl) ?_
      refine qs (.slice A bs.length c) (by kernel_rfl) (R_load (p := ⟨g, 0, none⟩) (by kernel_rfl) (by kernel_rfl) (by kernel_rfl) (HS.cell (i := 0) (j := 0) rfl rfl)) ?_
      refine qs (.int .i64 (bs.length : Int)) (by kernel_rfl) (by kernel_rfl) ?_
      obtain ⟨rm, rm_⟩ : ∃ z_ : Nat, z_ = (f + n) % bs.length := ⟨_, rfl⟩
      have rml : rm < bs.length := by rw [rm_]; exact Nat.mod_lt _ (by omega)
      refine qs (.int .i64 (rm : Int)) (by kernel_rfl) (R_eq (R_rem (i := f + n) (j := bs.length) (by kernel_rfl) (by kernel_rfl) (by omega) (by omega)) (by rw [← rm_])) ?_
      refine qs (.string (rdS ys i)) (by kernel_rfl) (by kernel_rfl) ?_
      obtain ⟨g21, rfl⟩ := St.rsome HS (i := 1) rfl (by omega)
      refine qs (.pointer (some ⟨g21, (rm : Int).toNat, none⟩)) (by kernel_rfl) (R_index1 (k := .i64) (g := g21) (n := bs.length) (c := c) (i := (rm : Int)) (by kernel_rfl) (by kernel_rfl) Try.underlying93 (by kernel_rfl) (by omega) (by omega)) ?_
      refine wpStill_nil ?_
      refine kr (v := .string (rdS ys i)) HS 1 rfl ((rm : Int).toNat) [.string (rdS ys i)] (by kernel_rfl) (by kernel_rfl) (by kernel_rfl) (by kernel_rfl) (by kernel_rfl) (one_ (by kernel_rfl)) (by rw [cz_len]; first | omega | (simp only [List.length_singleton]; omega)) rfl ?_
      intro W22 H_
      obtain ⟨xs23, xs23_⟩ : ∃ z_ : List ByteArray, z_ = (bs).set (rm : Int).toNat (rdS ys i) := ⟨_, rfl⟩
      replace HS : St W M W22 [blk g ((.slice (some ⟨g21, 0, none⟩) bs.length c) :: (.int .i64 (f : Int)) :: (.int .i64 (n : Int)) :: rest) tb, row (some ⟨g21, 0, none⟩) bs.length c (cz xs23) 9 1] := H_.cast_ (by rw [xs23_, ← cz_set]; rfl)
      clear H_
      have xs23l : xs23.length = bs.length := by rw [xs23_, List.length_set]; first | done | omega
      refine wpList_nil ?_
      refine x_then ?_
      refine wp_region_lit ?_
      refine ql (.pointer (some ⟨g, 0, none⟩)) (by kernel_rfl) (by kernel_rfl) ?_
      refine ql (.pointer (some ⟨g, 0, none⟩)) (by kernel_rfl) (by kernel_rfl) ?_
      refine ql (.pointer (some ⟨g, 2, none⟩)) (by kernel_rfl) (by kernel_rfl) ?_
      refine ql (.int .i64 (n : Int)) (by kernel_rfl) (R_load (p := ⟨g, 2, none⟩) (by kernel_rfl) (by kernel_rfl) (by kernel_rfl) (HS.cell (i := 0) (j := 2) rfl rfl)) ?_
      refine ql (.int .i64 ((n : Int) + 1)) (by kernel_rfl) (R_int (by kernel_rfl) (w64 (by omega))) ?_
      refine ql (.pointer (some ⟨g, 0, none⟩)) (by kernel_rfl) (by kernel_rfl) ?_
      refine ql (.pointer (some ⟨g, 2, none⟩)) (by kernel_rfl) (by kernel_rfl) ?_
      refine ks (v := .int .i64 ((n : Int) + 1)) HS 0 rfl (2) [.int .i64 ((n : Int) + 1)] (by kernel_rfl) (by kernel_rfl) (by kernel_rfl) (by kernel_rfl) (by kernel_rfl) (one_ (by kernel_rfl)) (Nat.le_of_ble_eq_true rfl) rfl ?_
      intro W24 H_
      replace HS : St W M W24 [blk g ((.slice (some ⟨g21, 0, none⟩) bs.length c) :: (.int .i64 (f : Int)) :: (.int .i64 ((n : Int) + 1)) :: rest) tb, row (some ⟨g21, 0, none⟩) bs.length c (cz xs23) 9 1] := H_
      clear H_
      refine wpList_nil ?_
      refine x_inb ?_
      refine x_then ?_
      refine wp_region_lit ?_
      refine ql (.int .i64 (i + 1)) (by kernel_rfl) (R_int (by kernel_rfl) (w64 (by omega))) ?_
      refine ql (.int .i64 (i + 1)) (by kernel_rfl) (by kernel_rfl) ?_
      refine wpList_nil ?_
      have hn2 : (n : Int) + 1 = ((n + 1 : Nat) : Int) := by omega
      rw [hn2] at HS
      rw [← xs23l] at HS
      have hqp := hq.push (v := rdS ys i) (by omega) (q := xs23) (by rw [xs23_, ← rm_]; rfl)
      rw [List.append_assoc, ← take_rdS (xs := ys) i0 (by omega)] at hqp
      refine x_then ?_
      exact ⟨ys.length - (i + 1).toNat, by omega, (fun k_ : Nat => List.getD ((.pointer (some ⟨g, 0, none⟩)) :: (.slice (some ad5) ys.length d) :: undef :: undef :: undef :: (.string (rdS ys i)) :: ((J1 6)) :: ((J1 7)) :: (.pointer (some ⟨g, 0, none⟩)) :: (.bool false) :: (.slice (some ad5) ys.length d) :: (.int .i64 (ys.length : Int)) :: (.int .i64 (i + 1)) :: (.bool true) :: (.pointer (some (ad5.add i.toNat))) :: (.string (rdS ys i)) :: (.pointer (some ⟨g, 0, none⟩)) :: (.pointer (some ⟨g, 0, none⟩)) :: (.pointer (some ⟨g, 2, none⟩)) :: (.int .i64 (n : Int)) :: (.pointer (some ⟨g, 0, none⟩)) :: (.pointer (some ⟨g, 0, none⟩)) :: (.pointer (some ⟨g, 0, none⟩)) :: (.slice (some ⟨g21, 0, none⟩) bs.length c) :: (.int .i64 (bs.length : Int)) :: (.bool false) :: ((J1 26)) :: ((J1 27)) :: ((J1 28)) :: ((J1 29)) :: ((J1 30)) :: ((J1 31)) :: ((J1 32)) :: ((J1 33)) :: ((J1 34)) :: ((J1 35)) :: ((J1 36)) :: ((J1 37)) :: ((J1 38)) :: ((J1 39)) :: ((J1 40)) :: ((J1 41)) :: ((J1 42)) :: ((J1 43)) :: ((J1 44)) :: ((J1 45)) :: ((J1 46)) :: ((J1 47)) :: ((J1 48)) :: ((J1 49)) :: ((J1 50)) :: ((J1 51)) :: ((J1 52)) :: ((J1 53)) :: ((J1 54)) :: ((J1 55)) :: ((J1 56)) :: ((J1 57)) :: ((J1 58)) :: ((J1 59)) :: ((J1 60)) :: ((J1 61)) :: ((J1 62)) :: ((J1 63)) :: (.pointer (some ⟨g, 0, none⟩)) :: (.pointer (some ⟨g, 0, none⟩)) :: (.pointer (some ⟨g, 0, none⟩)) :: (.slice (some ⟨g21, 0, none⟩) bs.length c) :: (.pointer (some ⟨g, 0, none⟩)) :: (.pointer (some ⟨g, 0, none⟩)) :: (.pointer (some ⟨g, 1, none⟩)) :: (.int .i64 (f : Int)) :: (.pointer (some ⟨g, 0, none⟩)) :: (.pointer (some ⟨g, 0, none⟩)) :: (.pointer (some ⟨g, 2, none⟩)) :: (.int .i64 (n : Int)) :: (.int .i64 ((f : Int) + (n : Int))) :: (.pointer (some ⟨g, 0, none⟩)) :: (.pointer (some ⟨g, 0, none⟩)) :: (.pointer (some ⟨g, 0, none⟩)) :: (.slice (some ⟨g21, 0, none⟩) bs.length c) :: (.int .i64 (bs.length : Int)) :: (.int .i64 (rm : Int)) :: (.string (rdS ys i)) :: (.pointer (some ⟨g21, (rm : Int).toNat, none⟩)) :: (.pointer (some ⟨g, 0, none⟩)) :: (.pointer (some ⟨g, 0, none⟩)) :: (.pointer (some ⟨g, 2, none⟩)) :: (.int .i64 (n : Int)) :: (.int .i64 ((n : Int) + 1)) :: (.pointer (some ⟨g, 0, none⟩)) :: (.pointer (some ⟨g, 2, none⟩)) :: (.int .i64 (i + 1)) :: []) k_ undef), i + 1, some ⟨g21, 0, none⟩, c, f, (n + 1), xs23, congrArg Fr (by kernel_rfl), rfl, by omega, by omega, hqp, HS⟩
  · skip
    refine ql (.bool false) (by kernel_rfl) (R_nbool (p := i < (ys.length : Int)) (by kernel_rfl) (hc4)) ?_
    refine wpList_nil ?_
    refine x_then ?_
    refine wp_seq ?_
    refine wp_cond_false (by kernel_rfl) ?_
    refine wp_exit ?_
    refine x_thenE ?_
    refine x_thenE ?_
    refine x_hit ?_
    refine end_ (.tuple #[]) (by kernel_rfl) ?_
    rw [List.take_of_length_le (by omega)] at hq
    exact ⟨_, _, f, n, bs, rfl, HS, hq⟩

end Go.Proofs.Ytnabbhcagonlkaa.GStackTurns
