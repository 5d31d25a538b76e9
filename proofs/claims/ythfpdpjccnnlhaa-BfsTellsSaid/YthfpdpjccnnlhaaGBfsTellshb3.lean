/- Written for this claim by gp.py, a program of this session's, over the kit's print. Lean checks it. -/
import Derived.Test.YthfpdpjccnnlhaaGBfsTellsx0
import Derived.Test.YthfpdpjccnnlhaaGBfsTellshx
import Derived.Test.YthfpdpjccnnlhaaGBfsTellshhp1
import Derived.Test.YthfpdpjccnnlhaaGBfsTellshhp2
import Derived.Test.YthfpdpjccnnlhaaGBfsTellshgp
import Derived.Test.YthfpdpjccnnlhaaGBfsTellshhp3
import Derived.WalkKit
import Derived.StillTailTactics
import Derived.Deep.LoopGhost
import Derived.KernelRfl
import Derived.Deep.OwnRows
import Derived.Laws.OwnMore
import Derived.Laws.MakeOwn
import Derived.Maps.AppendAt
import Derived.OrdersHeld
namespace Go.Proofs.Ythfpdpjccnnlhaa.GBfsTells
open Go.RowKit Go.Proofs.YthfpdpjccnnlhaaW.PrintWords Go.Proofs.YthfpdpjccnnlhaaW.PrintLast Go.Proofs.YthfpdpjccnnlhaaW.PrintMore
attribute [local go_sem] max2_int min2_int max_two min_two max_three min_three max_four min_four   -- for this text's walks alone
set_option linter.unusedVariables false
set_option linter.unusedSimpArgs false

--import Derived.WalkKit
--import Derived.StillTailTactics
--import Derived.Deep.LoopGhost
--import Derived.KernelRfl
--import Derived.Deep.OwnRows
--import Derived.Laws.OwnMore
--import Derived.Laws.MakeOwn
--import Derived.Maps.AppendAt
--import Derived.OrdersHeld
attribute [local irreducible] wpStill wpList Code.wp TA

theorem rd_cell {W : World} {g j : Nat} {cs : List Value} {v : Value} (h : Rd W (some ⟨g, 0, none⟩) cs) (hv : cs[j]? = some v) : W.cell? ⟨g, j, none⟩ = some v := by
  have := h.at_ hv
  rwa [show (⟨g, 0, none⟩ : Addr).add j = ⟨g, j, none⟩ by unfold Addr.add; split <;> simp_all] at this

set_option maxRecDepth 100000 in
set_option maxHeartbeats 1000000 in
theorem cof_0 (gc : Nat) (x : Int) (W : World) (hc : Rd W (some ⟨gc, 0, none⟩) [.int .i64 0, .int .i64 0, .int .i64 0, .int .i64 0, .int .i64 0, .int .i64 0, .int .i64 x]) : Calls Try.prog 37 #[.pointer (some ⟨gc, 0, none⟩), .int .i64 0] W fun e W' => e = .returned (.int .i64 (0)) ∧ St W (owns []) W' [] := by
  have HS : St W (owns []) W [] := St.start W _
  refine calls_enter [.pointer (some ⟨gc, 0, none⟩), .int .i64 0, undef, undef, undef, undef, undef, undef, undef, undef, undef, undef, undef, undef, undef, undef, undef, undef, undef, undef, undef] Try.func37 rfl (by kernel_rfl) ?_
  refine wp_seq ?_
  refine wp_region_lit ?_
  refine ql (.int .i64 0) (by kernel_rfl) (by kernel_rfl) ?_
  refine wpList_nil ?_
  refine x_then ?_
  refine wp_seq ?_
  refine wp_seq ?_
  refine wp_region_lit ?_
  refine ql (.pointer (some ⟨gc, 0, none⟩)) (by kernel_rfl) (by kernel_rfl) ?_
  refine ql (.bool false) (by kernel_rfl) (by kernel_rfl) ?_
  refine ql (.bool false) (by kernel_rfl) (by kernel_rfl) ?_
  refine ql (.int .i64 0) (by kernel_rfl) (by kernel_rfl) ?_
  refine ql (.bool false) (by kernel_rfl) (R_beq (b := decide ((0 : Int) < 0)) (by kernel_rfl) (by decide)) ?_
  refine ql (.bool false) (by kernel_rfl) (by kernel_rfl) ?_
  refine ql (.bool false) (by kernel_rfl) (by kernel_rfl) ?_
  refine ql (.int .i64 0) (by kernel_rfl) (by kernel_rfl) ?_
  refine ql (.bool false) (by kernel_rfl) (R_beq (b := decide ((0 : Int) ≥ 7)) (by kernel_rfl) (by decide)) ?_
  refine ql (.bool false) (by kernel_rfl) (by kernel_rfl) ?_
  refine wpList_nil ?_
  refine x_then ?_
  refine wp_cond_false (by kernel_rfl) ?_
  refine wp_skip ?_
  refine x_then ?_
  refine wp_seq ?_
  refine wp_region_lit ?_
  refine ql (.pointer (some ⟨gc, 0, none⟩)) (by kernel_rfl) (by kernel_rfl) ?_
  refine ql (.int .i64 0) (by kernel_rfl) (by kernel_rfl) ?_
  refine ql (.pointer (some ⟨gc, 0, none⟩)) (by kernel_rfl) (by kernel_rfl) ?_
  refine ql (.pointer (some ⟨gc, 0, none⟩)) (by kernel_rfl) (by kernel_rfl) ?_
  refine ql (.pointer (some ⟨gc, 0, none⟩)) (by kernel_rfl) (by kernel_rfl) ?_
  refine ql (.int .i64 0) (by kernel_rfl) (R_load (p := ⟨gc, 0, none⟩) (by kernel_rfl) (by kernel_rfl) (by kernel_rfl) (HS.old0 (rd_cell hc (j := 0) rfl))) ?_
  refine ql (.int .i64 0) (by kernel_rfl) (by kernel_rfl) ?_
  refine wpList_nil ?_
  refine x_then ?_
  refine wp_ret ?_
  refine ret_ (.int .i64 0) (by kernel_rfl) ?_
  exact ⟨rfl, HS⟩

set_option maxRecDepth 100000 in
set_option maxHeartbeats 1000000 in
theorem cof_1 (gc : Nat) (x : Int) (W : World) (hc : Rd W (some ⟨gc, 0, none⟩) [.int .i64 0, .int .i64 0, .int .i64 0, .int .i64 0, .int .i64 0, .int .i64 0, .int .i64 x]) : Calls Try.prog 37 #[.pointer (some ⟨gc, 0, none⟩), .int .i64 1] W fun e W' => e = .returned (.int .i64 (0)) ∧ St W (owns []) W' [] := by
  have HS : St W (owns []) W [] := St.start W _
  refine calls_enter [.pointer (some ⟨gc, 0, none⟩), .int .i64 1, undef, undef, undef, undef, undef, undef, undef, undef, undef, undef, undef, undef, undef, undef, undef, undef, undef, undef, undef] Try.func37 rfl (by kernel_rfl) ?_
  refine wp_seq ?_
  refine wp_region_lit ?_
  refine ql (.int .i64 0) (by kernel_rfl) (by kernel_rfl) ?_
  refine wpList_nil ?_
  refine x_then ?_
  refine wp_seq ?_
  refine wp_seq ?_
  refine wp_region_lit ?_
  refine ql (.pointer (some ⟨gc, 0, none⟩)) (by kernel_rfl) (by kernel_rfl) ?_
  refine ql (.bool false) (by kernel_rfl) (by kernel_rfl) ?_
  refine ql (.bool false) (by kernel_rfl) (by kernel_rfl) ?_
  refine ql (.int .i64 1) (by kernel_rfl) (by kernel_rfl) ?_
  refine ql (.bool false) (by kernel_rfl) (R_beq (b := decide ((1 : Int) < 0)) (by kernel_rfl) (by decide)) ?_
  refine ql (.bool false) (by kernel_rfl) (by kernel_rfl) ?_
  refine ql (.bool false) (by kernel_rfl) (by kernel_rfl) ?_
  refine ql (.int .i64 1) (by kernel_rfl) (by kernel_rfl) ?_
  refine ql (.bool false) (by kernel_rfl) (R_beq (b := decide ((1 : Int) ≥ 7)) (by kernel_rfl) (by decide)) ?_
  refine ql (.bool false) (by kernel_rfl) (by kernel_rfl) ?_
  refine wpList_nil ?_
  refine x_then ?_
  refine wp_cond_false (by kernel_rfl) ?_
  refine wp_skip ?_
  refine x_then ?_
  refine wp_seq ?_
  refine wp_region_lit ?_
  refine ql (.pointer (some ⟨gc, 0, none⟩)) (by kernel_rfl) (by kernel_rfl) ?_
  refine ql (.int .i64 1) (by kernel_rfl) (by kernel_rfl) ?_
  refine ql (.pointer (some ⟨gc, 0, none⟩)) (by kernel_rfl) (by kernel_rfl) ?_
  refine ql (.pointer (some ⟨gc, 0, none⟩)) (by kernel_rfl) (by kernel_rfl) ?_
  refine ql (.pointer (some ⟨gc, 1, none⟩)) (by kernel_rfl) (by kernel_rfl) ?_
  refine ql (.int .i64 0) (by kernel_rfl) (R_load (p := ⟨gc, 1, none⟩) (by kernel_rfl) (by kernel_rfl) (by kernel_rfl) (HS.old0 (rd_cell hc (j := 1) rfl))) ?_
  refine ql (.int .i64 0) (by kernel_rfl) (by kernel_rfl) ?_
  refine wpList_nil ?_
  refine x_then ?_
  refine wp_ret ?_
  refine ret_ (.int .i64 0) (by kernel_rfl) ?_
  exact ⟨rfl, HS⟩

set_option maxRecDepth 100000 in
set_option maxHeartbeats 1000000 in
theorem cof_2 (gc : Nat) (x : Int) (W : World) (hc : Rd W (some ⟨gc, 0, none⟩) [.int .i64 0, .int .i64 0, .int .i64 0, .int .i64 0, .int .i64 0, .int .i64 0, .int .i64 x]) : Calls Try.prog 37 #[.pointer (some ⟨gc, 0, none⟩), .int .i64 2] W fun e W' => e = .returned (.int .i64 (0)) ∧ St W (owns []) W' [] := by
  have HS : St W (owns []) W [] := St.start W _
  refine calls_enter [.pointer (some ⟨gc, 0, none⟩), .int .i64 2, undef, undef, undef, undef, undef, undef, undef, undef, undef, undef, undef, undef, undef, undef, undef, undef, undef, undef, undef] Try.func37 rfl (by kernel_rfl) ?_
  refine wp_seq ?_
  refine wp_region_lit ?_
  refine ql (.int .i64 0) (by kernel_rfl) (by kernel_rfl) ?_
  refine wpList_nil ?_
  refine x_then ?_
  refine wp_seq ?_
  refine wp_seq ?_
  refine wp_region_lit ?_
  refine ql (.pointer (some ⟨gc, 0, none⟩)) (by kernel_rfl) (by kernel_rfl) ?_
  refine ql (.bool false) (by kernel_rfl) (by kernel_rfl) ?_
  refine ql (.bool false) (by kernel_rfl) (by kernel_rfl) ?_
  refine ql (.int .i64 2) (by kernel_rfl) (by kernel_rfl) ?_
  refine ql (.bool false) (by kernel_rfl) (R_beq (b := decide ((2 : Int) < 0)) (by kernel_rfl) (by decide)) ?_
  refine ql (.bool false) (by kernel_rfl) (by kernel_rfl) ?_
  refine ql (.bool false) (by kernel_rfl) (by kernel_rfl) ?_
  refine ql (.int .i64 2) (by kernel_rfl) (by kernel_rfl) ?_
  refine ql (.bool false) (by kernel_rfl) (R_beq (b := decide ((2 : Int) ≥ 7)) (by kernel_rfl) (by decide)) ?_
  refine ql (.bool false) (by kernel_rfl) (by kernel_rfl) ?_
  refine wpList_nil ?_
  refine x_then ?_
  refine wp_cond_false (by kernel_rfl) ?_
  refine wp_skip ?_
  refine x_then ?_
  refine wp_seq ?_
  refine wp_region_lit ?_
  refine ql (.pointer (some ⟨gc, 0, none⟩)) (by kernel_rfl) (by kernel_rfl) ?_
  refine ql (.int .i64 2) (by kernel_rfl) (by kernel_rfl) ?_
  refine ql (.pointer (some ⟨gc, 0, none⟩)) (by kernel_rfl) (by kernel_rfl) ?_
  refine ql (.pointer (some ⟨gc, 0, none⟩)) (by kernel_rfl) (by kernel_rfl) ?_
  refine ql (.pointer (some ⟨gc, 2, none⟩)) (by kernel_rfl) (by kernel_rfl) ?_
  refine ql (.int .i64 0) (by kernel_rfl) (R_load (p := ⟨gc, 2, none⟩) (by kernel_rfl) (by kernel_rfl) (by kernel_rfl) (HS.old0 (rd_cell hc (j := 2) rfl))) ?_
  refine ql (.int .i64 0) (by kernel_rfl) (by kernel_rfl) ?_
  refine wpList_nil ?_
  refine x_then ?_
  refine wp_ret ?_
  refine ret_ (.int .i64 0) (by kernel_rfl) ?_
  exact ⟨rfl, HS⟩

set_option maxRecDepth 100000 in
set_option maxHeartbeats 1000000 in
theorem cof_3 (gc : Nat) (x : Int) (W : World) (hc : Rd W (some ⟨gc, 0, none⟩) [.int .i64 0, .int .i64 0, .int .i64 0, .int .i64 0, .int .i64 0, .int .i64 0, .int .i64 x]) : Calls Try.prog 37 #[.pointer (some ⟨gc, 0, none⟩), .int .i64 3] W fun e W' => e = .returned (.int .i64 (0)) ∧ St W (owns []) W' [] := by
  have HS : St W (owns []) W [] := St.start W _
  refine calls_enter [.pointer (some ⟨gc, 0, none⟩), .int .i64 3, undef, undef, undef, undef, undef, undef, undef, undef, undef, undef, undef, undef, undef, undef, undef, undef, undef, undef, undef] Try.func37 rfl (by kernel_rfl) ?_
  refine wp_seq ?_
  refine wp_region_lit ?_
  refine ql (.int .i64 0) (by kernel_rfl) (by kernel_rfl) ?_
  refine wpList_nil ?_
  refine x_then ?_
  refine wp_seq ?_
  refine wp_seq ?_
  refine wp_region_lit ?_
  refine ql (.pointer (some ⟨gc, 0, none⟩)) (by kernel_rfl) (by kernel_rfl) ?_
  refine ql (.bool false) (by kernel_rfl) (by kernel_rfl) ?_
  refine ql (.bool false) (by kernel_rfl) (by kernel_rfl) ?_
  refine ql (.int .i64 3) (by kernel_rfl) (by kernel_rfl) ?_
  refine ql (.bool false) (by kernel_rfl) (R_beq (b := decide ((3 : Int) < 0)) (by kernel_rfl) (by decide)) ?_
  refine ql (.bool false) (by kernel_rfl) (by kernel_rfl) ?_
  refine ql (.bool false) (by kernel_rfl) (by kernel_rfl) ?_
  refine ql (.int .i64 3) (by kernel_rfl) (by kernel_rfl) ?_
  refine ql (.bool false) (by kernel_rfl) (R_beq (b := decide ((3 : Int) ≥ 7)) (by kernel_rfl) (by decide)) ?_
  refine ql (.bool false) (by kernel_rfl) (by kernel_rfl) ?_
  refine wpList_nil ?_
  refine x_then ?_
  refine wp_cond_false (by kernel_rfl) ?_
  refine wp_skip ?_
  refine x_then ?_
  refine wp_seq ?_
  refine wp_region_lit ?_
  refine ql (.pointer (some ⟨gc, 0, none⟩)) (by kernel_rfl) (by kernel_rfl) ?_
  refine ql (.int .i64 3) (by kernel_rfl) (by kernel_rfl) ?_
  refine ql (.pointer (some ⟨gc, 0, none⟩)) (by kernel_rfl) (by kernel_rfl) ?_
  refine ql (.pointer (some ⟨gc, 0, none⟩)) (by kernel_rfl) (by kernel_rfl) ?_
  refine ql (.pointer (some ⟨gc, 3, none⟩)) (by kernel_rfl) (by kernel_rfl) ?_
  refine ql (.int .i64 0) (by kernel_rfl) (R_load (p := ⟨gc, 3, none⟩) (by kernel_rfl) (by kernel_rfl) (by kernel_rfl) (HS.old0 (rd_cell hc (j := 3) rfl))) ?_
  refine ql (.int .i64 0) (by kernel_rfl) (by kernel_rfl) ?_
  refine wpList_nil ?_
  refine x_then ?_
  refine wp_ret ?_
  refine ret_ (.int .i64 0) (by kernel_rfl) ?_
  exact ⟨rfl, HS⟩

set_option maxRecDepth 100000 in
set_option maxHeartbeats 1000000 in
theorem cof_4 (gc : Nat) (x : Int) (W : World) (hc : Rd W (some ⟨gc, 0, none⟩) [.int .i64 0, .int .i64 0, .int .i64 0, .int .i64 0, .int .i64 0, .int .i64 0, .int .i64 x]) : Calls Try.prog 37 #[.pointer (some ⟨gc, 0, none⟩), .int .i64 4] W fun e W' => e = .returned (.int .i64 (0)) ∧ St W (owns []) W' [] := by
  have HS : St W (owns []) W [] := St.start W _
  refine calls_enter [.pointer (some ⟨gc, 0, none⟩), .int .i64 4, undef, undef, undef, undef, undef, undef, undef, undef, undef, undef, undef, undef, undef, undef, undef, undef, undef, undef, undef] Try.func37 rfl (by kernel_rfl) ?_
  refine wp_seq ?_
  refine wp_region_lit ?_
  refine ql (.int .i64 0) (by kernel_rfl) (by kernel_rfl) ?_
  refine wpList_nil ?_
  refine x_then ?_
  refine wp_seq ?_
  refine wp_seq ?_
  refine wp_region_lit ?_
  refine ql (.pointer (some ⟨gc, 0, none⟩)) (by kernel_rfl) (by kernel_rfl) ?_
  refine ql (.bool false) (by kernel_rfl) (by kernel_rfl) ?_
  refine ql (.bool false) (by kernel_rfl) (by kernel_rfl) ?_
  refine ql (.int .i64 4) (by kernel_rfl) (by kernel_rfl) ?_
  refine ql (.bool false) (by kernel_rfl) (R_beq (b := decide ((4 : Int) < 0)) (by kernel_rfl) (by decide)) ?_
  refine ql (.bool false) (by kernel_rfl) (by kernel_rfl) ?_
  refine ql (.bool false) (by kernel_rfl) (by kernel_rfl) ?_
  refine ql (.int .i64 4) (by kernel_rfl) (by kernel_rfl) ?_
  refine ql (.bool false) (by kernel_rfl) (R_beq (b := decide ((4 : Int) ≥ 7)) (by kernel_rfl) (by decide)) ?_
  refine ql (.bool false) (by kernel_rfl) (by kernel_rfl) ?_
  refine wpList_nil ?_
  refine x_then ?_
  refine wp_cond_false (by kernel_rfl) ?_
  refine wp_skip ?_
  refine x_then ?_
  refine wp_seq ?_
  refine wp_region_lit ?_
  refine ql (.pointer (some ⟨gc, 0, none⟩)) (by kernel_rfl) (by kernel_rfl) ?_
  refine ql (.int .i64 4) (by kernel_rfl) (by kernel_rfl) ?_
  refine ql (.pointer (some ⟨gc, 0, none⟩)) (by kernel_rfl) (by kernel_rfl) ?_
  refine ql (.pointer (some ⟨gc, 0, none⟩)) (by kernel_rfl) (by kernel_rfl) ?_
  refine ql (.pointer (some ⟨gc, 4, none⟩)) (by kernel_rfl) (by kernel_rfl) ?_
  refine ql (.int .i64 0) (by kernel_rfl) (R_load (p := ⟨gc, 4, none⟩) (by kernel_rfl) (by kernel_rfl) (by kernel_rfl) (HS.old0 (rd_cell hc (j := 4) rfl))) ?_
  refine ql (.int .i64 0) (by kernel_rfl) (by kernel_rfl) ?_
  refine wpList_nil ?_
  refine x_then ?_
  refine wp_ret ?_
  refine ret_ (.int .i64 0) (by kernel_rfl) ?_
  exact ⟨rfl, HS⟩

set_option maxRecDepth 100000 in
set_option maxHeartbeats 1000000 in
theorem cof_5 (gc : Nat) (x : Int) (W : World) (hc : Rd W (some ⟨gc, 0, none⟩) [.int .i64 0, .int .i64 0, .int .i64 0, .int .i64 0, .int .i64 0, .int .i64 0, .int .i64 x]) : Calls Try.prog 37 #[.pointer (some ⟨gc, 0, none⟩), .int .i64 5] W fun e W' => e = .returned (.int .i64 (0)) ∧ St W (owns []) W' [] := by
  have HS : St W (owns []) W [] := St.start W _
  refine calls_enter [.pointer (some ⟨gc, 0, none⟩), .int .i64 5, undef, undef, undef, undef, undef, undef, undef, undef, undef, undef, undef, undef, undef, undef, undef, undef, undef, undef, undef] Try.func37 rfl (by kernel_rfl) ?_
  refine wp_seq ?_
  refine wp_region_lit ?_
  refine ql (.int .i64 0) (by kernel_rfl) (by kernel_rfl) ?_
  refine wpList_nil ?_
  refine x_then ?_
  refine wp_seq ?_
  refine wp_seq ?_
  refine wp_region_lit ?_
  refine ql (.pointer (some ⟨gc, 0, none⟩)) (by kernel_rfl) (by kernel_rfl) ?_
  refine ql (.bool false) (by kernel_rfl) (by kernel_rfl) ?_
  refine ql (.bool false) (by kernel_rfl) (by kernel_rfl) ?_
  refine ql (.int .i64 5) (by kernel_rfl) (by kernel_rfl) ?_
  refine ql (.bool false) (by kernel_rfl) (R_beq (b := decide ((5 : Int) < 0)) (by kernel_rfl) (by decide)) ?_
  refine ql (.bool false) (by kernel_rfl) (by kernel_rfl) ?_
  refine ql (.bool false) (by kernel_rfl) (by kernel_rfl) ?_
  refine ql (.int .i64 5) (by kernel_rfl) (by kernel_rfl) ?_
  refine ql (.bool false) (by kernel_rfl) (R_beq (b := decide ((5 : Int) ≥ 7)) (by kernel_rfl) (by decide)) ?_
  refine ql (.bool false) (by kernel_rfl) (by kernel_rfl) ?_
  refine wpList_nil ?_
  refine x_then ?_
  refine wp_cond_false (by kernel_rfl) ?_
  refine wp_skip ?_
  refine x_then ?_
  refine wp_seq ?_
  refine wp_region_lit ?_
  refine ql (.pointer (some ⟨gc, 0, none⟩)) (by kernel_rfl) (by kernel_rfl) ?_
  refine ql (.int .i64 5) (by kernel_rfl) (by kernel_rfl) ?_
  refine ql (.pointer (some ⟨gc, 0, none⟩)) (by kernel_rfl) (by kernel_rfl) ?_
  refine ql (.pointer (some ⟨gc, 0, none⟩)) (by kernel_rfl) (by kernel_rfl) ?_
  refine ql (.pointer (some ⟨gc, 5, none⟩)) (by kernel_rfl) (by kernel_rfl) ?_
  refine ql (.int .i64 0) (by kernel_rfl) (R_load (p := ⟨gc, 5, none⟩) (by kernel_rfl) (by kernel_rfl) (by kernel_rfl) (HS.old0 (rd_cell hc (j := 5) rfl))) ?_
  refine ql (.int .i64 0) (by kernel_rfl) (by kernel_rfl) ?_
  refine wpList_nil ?_
  refine x_then ?_
  refine wp_ret ?_
  refine ret_ (.int .i64 0) (by kernel_rfl) ?_
  exact ⟨rfl, HS⟩

set_option maxRecDepth 100000 in
set_option maxHeartbeats 1000000 in
theorem cof_6 (gc : Nat) (x : Int) (W : World) (hc : Rd W (some ⟨gc, 0, none⟩) [.int .i64 0, .int .i64 0, .int .i64 0, .int .i64 0, .int .i64 0, .int .i64 0, .int .i64 x]) : Calls Try.prog 37 #[.pointer (some ⟨gc, 0, none⟩), .int .i64 6] W fun e W' => e = .returned (.int .i64 (x)) ∧ St W (owns []) W' [] := by
  have HS : St W (owns []) W [] := St.start W _
  refine calls_enter [.pointer (some ⟨gc, 0, none⟩), .int .i64 6, undef, undef, undef, undef, undef, undef, undef, undef, undef, undef, undef, undef, undef, undef, undef, undef, undef, undef, undef] Try.func37 rfl (by kernel_rfl) ?_
  refine wp_seq ?_
  refine wp_region_lit ?_
  refine ql (.int .i64 0) (by kernel_rfl) (by kernel_rfl) ?_
  refine wpList_nil ?_
  refine x_then ?_
  refine wp_seq ?_
  refine wp_seq ?_
  refine wp_region_lit ?_
  refine ql (.pointer (some ⟨gc, 0, none⟩)) (by kernel_rfl) (by kernel_rfl) ?_
  refine ql (.bool false) (by kernel_rfl) (by kernel_rfl) ?_
  refine ql (.bool false) (by kernel_rfl) (by kernel_rfl) ?_
  refine ql (.int .i64 6) (by kernel_rfl) (by kernel_rfl) ?_
  refine ql (.bool false) (by kernel_rfl) (R_beq (b := decide ((6 : Int) < 0)) (by kernel_rfl) (by decide)) ?_
  refine ql (.bool false) (by kernel_rfl) (by kernel_rfl) ?_
  refine ql (.bool false) (by kernel_rfl) (by kernel_rfl) ?_
  refine ql (.int .i64 6) (by kernel_rfl) (by kernel_rfl) ?_
  refine ql (.bool false) (by kernel_rfl) (R_beq (b := decide ((6 : Int) ≥ 7)) (by kernel_rfl) (by decide)) ?_
  refine ql (.bool false) (by kernel_rfl) (by kernel_rfl) ?_
  refine wpList_nil ?_
  refine x_then ?_
  refine wp_cond_false (by kernel_rfl) ?_
  refine wp_skip ?_
  refine x_then ?_
  refine wp_seq ?_
  refine wp_region_lit ?_
  refine ql (.pointer (some ⟨gc, 0, none⟩)) (by kernel_rfl) (by kernel_rfl) ?_
  refine ql (.int .i64 6) (by kernel_rfl) (by kernel_rfl) ?_
  refine ql (.pointer (some ⟨gc, 0, none⟩)) (by kernel_rfl) (by kernel_rfl) ?_
  refine ql (.pointer (some ⟨gc, 0, none⟩)) (by kernel_rfl) (by kernel_rfl) ?_
  refine ql (.pointer (some ⟨gc, 6, none⟩)) (by kernel_rfl) (by kernel_rfl) ?_
  refine ql (.int .i64 x) (by kernel_rfl) (R_load (p := ⟨gc, 6, none⟩) (by kernel_rfl) (by kernel_rfl) (by kernel_rfl) (HS.old0 (rd_cell hc (j := 6) rfl))) ?_
  refine ql (.int .i64 x) (by kernel_rfl) (by kernel_rfl) ?_
  refine wpList_nil ?_
  refine x_then ?_
  refine wp_ret ?_
  refine ret_ (.int .i64 x) (by kernel_rfl) ?_
  exact ⟨rfl, HS⟩

theorem cof (gc : Nat) (x q : Int) (W : World) (hc : Rd W (some ⟨gc, 0, none⟩) [.int .i64 0, .int .i64 0, .int .i64 0, .int .i64 0, .int .i64 0, .int .i64 0, .int .i64 x]) (h0 : 0 ≤ q) (h1 : q < 7) : Calls Try.prog 37 #[.pointer (some ⟨gc, 0, none⟩), .int .i64 q] W fun e W' => e = .returned (.int .i64 (if q = 6 then x else 0)) ∧ St W (owns []) W' [] := by
  rcases (by omega : q = 0 ∨ q = 1 ∨ q = 2 ∨ q = 3 ∨ q = 4 ∨ q = 5 ∨ q = 6) with rfl | rfl | rfl | rfl | rfl | rfl | rfl
  · exact cof_0 gc x W hc
  · exact cof_1 gc x W hc
  · exact cof_2 gc x W hc
  · exact cof_3 gc x W hc
  · exact cof_4 gc x W hc
  · exact cof_5 gc x W hc
  · exact cof_6 gc x W hc

set_option maxRecDepth 100000 in
set_option maxHeartbeats 1000000 in
theorem cplus (a b : Int) (W : World) (ha : 0 ≤ a) (ha2 : a ≤ 1152921504606846976) (hb : 0 ≤ b) (hb2 : b ≤ 1152921504606846976) : Calls Try.prog 56 #[.int .i64 a, .int .i64 b] W fun e W' => e = .returned (.int .i64 (a + b)) ∧ St W (owns []) W' [] := by
  have HS : St W (owns []) W [] := St.start W _
  refine calls_enter [.int .i64 a, .int .i64 b, undef, undef, undef, undef, undef, undef, undef, undef, undef, undef] Try.func56 rfl (by kernel_rfl) ?_
  refine wp_seq ?_
  refine wp_region_lit ?_
  refine ql (.int .i64 0) (by kernel_rfl) (by kernel_rfl) ?_
  refine wpList_nil ?_
  refine x_then ?_
  refine wp_seq ?_
  refine wp_seq ?_
  refine wp_region_lit ?_
  refine ql (.int .i64 a) (by kernel_rfl) (by kernel_rfl) ?_
  refine ql (.int .i64 b) (by kernel_rfl) (by kernel_rfl) ?_
  refine ql (.int .i64 (9223372036854775807 - b)) (by kernel_rfl) (R_int (by kernel_rfl) (w64 (by omega))) ?_
  refine ql (.bool false) (by kernel_rfl) (R_nbool (p := a > (9223372036854775807 - b)) (by kernel_rfl) (by omega)) ?_
  refine wpList_nil ?_
  refine x_then ?_
  refine wp_cond_false (by kernel_rfl) ?_
  refine wp_skip ?_
  refine x_then ?_
  refine wp_seq ?_
  refine wp_region_lit ?_
  refine ql (.int .i64 a) (by kernel_rfl) (by kernel_rfl) ?_
  refine ql (.int .i64 b) (by kernel_rfl) (by kernel_rfl) ?_
  refine ql (.int .i64 (a + b)) (by kernel_rfl) (R_int (by kernel_rfl) (w64 (by omega))) ?_
  refine ql (.int .i64 (a + b)) (by kernel_rfl) (by kernel_rfl) ?_
  refine wpList_nil ?_
  refine x_then ?_
  refine wp_ret ?_
  refine ret_ (.int .i64 (a + b)) (by kernel_rfl) ?_
  exact ⟨rfl, HS⟩

set_option maxRecDepth 100000 in
set_option maxHeartbeats 1000000 in
theorem ctotal (gc : Nat) (x : Int) (W : World) (hc : Rd W (some ⟨gc, 0, none⟩) [.int .i64 0, .int .i64 0, .int .i64 0, .int .i64 0, .int .i64 0, .int .i64 0, .int .i64 x]) (h0 : 0 ≤ x) (h1 : x ≤ 1099511627776) : Calls Try.prog 38 #[.pointer (some ⟨gc, 0, none⟩)] W fun e W' => e = .returned (.int .i64 x) ∧ St W (owns []) W' [] := by
  have HS : St W (owns []) W [] := St.start W _
  refine calls_enter [.pointer (some ⟨gc, 0, none⟩), undef, undef, undef, undef, undef, undef, undef, undef, undef, undef, undef, undef, undef, undef] Try.func38 rfl (by kernel_rfl) ?_
  refine wp_seq ?_
  refine wp_region_lit ?_
  refine ql (.int .i64 0) (by kernel_rfl) (by kernel_rfl) ?_
  refine wpList_nil ?_
  refine x_then ?_
  refine wp_seq ?_
  refine wp_region_lit ?_
  refine ql (.int .i64 0) (by kernel_rfl) (by kernel_rfl) ?_
  refine wpList_nil ?_
  refine x_then ?_
  refine wp_seq ?_
  refine wp_seq ?_
  refine wp_region_lit ?_
  refine ql (.int .i64 0) (by kernel_rfl) (by kernel_rfl) ?_
  refine wpList_nil ?_
  refine x_then ?_
  refine wp_block ?_
  refine wp_loop_ghost (fun kq a' w' => ∃ (J1 : Nat → Value) (q : Int) (n : Int) , a' = Fr [.pointer (some ⟨gc, 0, none⟩), undef, .int .i64 0, .int .i64 n, (J1 4), .int .i64 q, (J1 6), (J1 7), (J1 8), (J1 9), (J1 10), (J1 11), (J1 12), (J1 13), undef] ∧ kq = (7 - (q).toNat) ∧ (0 ≤ q) ∧ (q ≤ 7) ∧ (n = if q ≤ 6 then 0 else x) ∧ St W (owns []) w' []) (7 - ((0 : Int)).toNat) ⟨(fun k_ : Nat => List.getD [.pointer (some ⟨gc, 0, none⟩), undef, .int .i64 0, .int .i64 0, undef, .int .i64 0, undef, undef, undef, undef, undef, undef, undef, undef, undef] k_ undef), (0 : Int), (0 : Int), congrArg Fr (by kernel_rfl), rfl, by omega, by omega, by rw [if_pos (by omega)], HS⟩ ?_
  clear HS
  intro kq2 a' W3 hrel
  obtain ⟨J1, q, n, rfl, hk, q0, q1, hn, HS⟩ := hrel
  refine wp_seq ?_
  refine wp_region_lit ?_
  by_cases hc4 : q < (7 : Int)
  · skip
    refine ql (.bool true) (by kernel_rfl) (R_bool (p := q < (7 : Int)) (by kernel_rfl) (hc4)) ?_
    refine wpList_nil ?_
    refine x_then ?_
    refine wp_seq ?_
    refine wp_cond_true (by kernel_rfl) ?_
    refine wp_skip ?_
    refine x_then ?_
    refine wp_seq ?_
    refine wp_block ?_
    refine wp_seq ?_
    refine wp_region_lit ?_
    refine ql (.int .i64 q) (by kernel_rfl) (by kernel_rfl) ?_
    refine ql (.int .i64 q) (by kernel_rfl) (by kernel_rfl) ?_
    refine wpList_nil ?_
    refine x_then ?_
    refine wp_region_lit ?_
    refine ql (.int .i64 n) (by kernel_rfl) (by kernel_rfl) ?_
    refine ql (.pointer (some ⟨gc, 0, none⟩)) (by kernel_rfl) (by kernel_rfl) ?_
    refine ql (.int .i64 q) (by kernel_rfl) (by kernel_rfl) ?_
    refine qc (f := 37) (args := #[.pointer (some ⟨gc, 0, none⟩), .int .i64 q]) (by kernel_rfl) (R_call #[.pointer (some ⟨gc, 0, none⟩), .int .i64 q] Try.func37 (by kernel_rfl) (by kernel_rfl) (by kernel_rfl)) ?_
    have hif : 0 ≤ (if q = 6 then x else 0) ∧ (if q = 6 then x else 0) ≤ 1099511627776 := by split <;> omega
    have hni : 0 ≤ n ∧ n ≤ 1099511627776 := by rw [hn]; split <;> omega
    refine (cof gc x q _ (hc.old0 HS) (by omega) (by omega)).mono ?_
    rintro e W5 ⟨rfl, H_⟩
    refine ⟨_, rfl, ?_⟩
    replace HS : St W (owns []) W5 [] := HS.join (F := []) (G := []) H_
    clear H_
    refine qc (f := 56) (args := #[.int .i64 n, .int .i64 (if q = 6 then x else 0)]) (by kernel_rfl) (R_call #[.int .i64 n, .int .i64 (if q = 6 then x else 0)] Try.func56 (by kernel_rfl) (by kernel_rfl) (by kernel_rfl)) ?_
    refine (cplus n (if q = 6 then x else 0) _ (by omega) (by omega) (by omega) (by omega)).mono ?_
    rintro e W6 ⟨rfl, H_⟩
    refine ⟨_, rfl, ?_⟩
    replace HS : St W (owns []) W6 [] := HS.join (F := []) (G := []) H_
    clear H_
    refine ql (.int .i64 (n + (if q = 6 then x else 0))) (by kernel_rfl) (by kernel_rfl) ?_
    refine wpList_nil ?_
    refine x_inb ?_
    refine x_then ?_
    refine wp_region_lit ?_
    refine ql (.int .i64 (q + 1)) (by kernel_rfl) (R_int (by kernel_rfl) (w64 (by omega))) ?_
    refine ql (.int .i64 (q + 1)) (by kernel_rfl) (by kernel_rfl) ?_
    refine wpList_nil ?_
    refine x_then ?_
    exact ⟨7 - (q + 1).toNat, by omega, (fun k_ : Nat => List.getD [.pointer (some ⟨gc, 0, none⟩), undef, .int .i64 0, .int .i64 (n + (if q = 6 then x else 0)), .int .i64 q, .int .i64 (q + 1), .bool true, .int .i64 q, .int .i64 n, .pointer (some ⟨gc, 0, none⟩), .int .i64 q, .int .i64 (if q = 6 then x else 0), .int .i64 (n + (if q = 6 then x else 0)), .int .i64 (q + 1), undef] k_ undef), q + 1, n + (if q = 6 then x else 0), congrArg Fr (by kernel_rfl), rfl, by omega, by omega, tot_step (by omega) hn, HS⟩
  · skip
    refine ql (.bool false) (by kernel_rfl) (R_nbool (p := q < (7 : Int)) (by kernel_rfl) (hc4)) ?_
    refine wpList_nil ?_
    refine x_then ?_
    refine wp_seq ?_
    refine wp_cond_false (by kernel_rfl) ?_
    refine wp_exit ?_
    refine x_thenE ?_
    refine x_thenE ?_
    refine x_hit ?_
    refine x_then ?_
    refine wp_seq ?_
    refine wp_region_lit ?_
    refine ql (.int .i64 n) (by kernel_rfl) (by kernel_rfl) ?_
    refine ql (.int .i64 n) (by kernel_rfl) (by kernel_rfl) ?_
    refine wpList_nil ?_
    refine x_then ?_
    refine wp_ret ?_
    refine ret_ (.int .i64 n) (by kernel_rfl) ?_
    rw [if_neg (by omega)] at hn
    subst hn
    exact ⟨rfl, HS⟩

set_option maxRecDepth 100000 in
set_option maxHeartbeats 1000000 in
theorem rdist_yes (N : Nat) (A : Option Addr) (c : Nat) (arcs : List (Int × Int)) (W : World) (hr : Rd W A (cf arcC arcs)) (hl : arcs.length ≤ 1048576) (v : Int) (hF : Fine N arcs) (hN : N ≤ 1048576) (h0 : 0 ≤ v) (h1 : v < N) : Calls Try.prog 33 #[.int .i64 (N : Int), .slice A arcs.length c, .int .i64 v] W fun e W' => ∃ A' c' ds, e = .returned (.slice A' ds.length c') ∧ St W (owns []) W' [row A' ds.length c' (ci .i64 ds) 3 1] ∧ DS N arcs v ds := by
  have HS : St W (owns []) W [] := St.start W _
  refine calls_enter ((.int .i64 (N : Int)) :: (.slice A arcs.length c) :: (.int .i64 v) :: undef :: undef :: undef :: undef :: undef :: undef :: undef :: undef :: undef :: undef :: undef :: undef :: undef :: undef :: undef :: undef :: undef :: undef :: undef :: undef :: undef :: undef :: undef :: undef :: undef :: undef :: undef :: undef :: undef :: undef :: undef :: undef :: undef :: undef :: undef :: undef :: undef :: undef :: undef :: undef :: undef :: undef :: undef :: undef :: undef :: undef :: undef :: undef :: undef :: undef :: undef :: undef :: undef :: undef :: undef :: undef :: undef :: undef :: undef :: undef :: undef :: undef :: undef :: undef :: undef :: undef :: undef :: undef :: undef :: undef :: []) Try.func33 rfl (by kernel_rfl) ?_
  refine wp_seq ?_
  refine wp_region_lit ?_
  refine ql (.slice none 0 0) (by kernel_rfl) (by kernel_rfl) ?_
  refine wpList_nil ?_
  refine x_then ?_
  refine wp_seq ?_
  refine wp_region_lit ?_
  refine kl HS 0 [] 3 1 (by kernel_rfl) (by kernel_rfl) rfl (by decide) ?_
  intro g1 W2 H_
  replace HS : St W (owns []) W2 [row (some ⟨g1, 0, none⟩) 0 0 (ci .i64 ([])) 3 1] := H_.cast_ (by kernel_rfl)
  clear H_
  refine ql (.slice (some ⟨g1, 0, none⟩) 0 0) (by kernel_rfl) (by kernel_rfl) ?_
  refine wpList_nil ?_
  refine x_then ?_
  refine wp_seq ?_
  refine wp_seq ?_
  refine wp_region_lit ?_
  refine ql (.int .i64 0) (by kernel_rfl) (by kernel_rfl) ?_
  refine wpList_nil ?_
  refine x_then ?_
  refine wp_block ?_
  refine wp_loop_ghost (fun kq a' w' => ∃ (J3 : Nat → Value) (i : Int) (Ao : Option Addr) (co : Nat) (os : List Int) , a' = Fr ((.int .i64 (N : Int)) :: (.slice A arcs.length c) :: (.int .i64 v) :: undef :: undef :: undef :: (.slice none 0 0) :: (.slice Ao os.length co) :: (.int .i64 i) :: undef :: undef :: (.slice (some ⟨g1, 0, none⟩) 0 0) :: ((J3 12)) :: ((J3 13)) :: ((J3 14)) :: ((J3 15)) :: ((J3 16)) :: ((J3 17)) :: ((J3 18)) :: ((J3 19)) :: undef :: undef :: undef :: undef :: undef :: undef :: undef :: undef :: undef :: undef :: undef :: undef :: undef :: undef :: undef :: undef :: undef :: undef :: undef :: undef :: undef :: undef :: undef :: undef :: undef :: undef :: undef :: undef :: undef :: undef :: undef :: undef :: undef :: undef :: undef :: undef :: undef :: undef :: undef :: undef :: undef :: undef :: undef :: undef :: undef :: undef :: undef :: undef :: undef :: undef :: undef :: undef :: undef :: []) ∧ kq = (N - (i).toNat) ∧ (0 ≤ i) ∧ (i ≤ N) ∧ (os = List.replicate (i).toNat (-1)) ∧ ((os.length : Int) = i) ∧ St W (owns []) w' [row Ao os.length co (ci .i64 os) 3 1]) (N - ((0 : Int)).toNat) ⟨(fun k_ : Nat => List.getD ((.int .i64 (N : Int)) :: (.slice A arcs.length c) :: (.int .i64 v) :: undef :: undef :: undef :: (.slice none 0 0) :: (.slice (some ⟨g1, 0, none⟩) 0 0) :: (.int .i64 0) :: undef :: undef :: (.slice (some ⟨g1, 0, none⟩) 0 0) :: undef :: undef :: undef :: undef :: undef :: undef :: undef :: undef :: undef :: undef :: undef :: undef :: undef :: undef :: undef :: undef :: undef :: undef :: undef :: undef :: undef :: undef :: undef :: undef :: undef :: undef :: undef :: undef :: undef :: undef :: undef :: undef :: undef :: undef :: undef :: undef :: undef :: undef :: undef :: undef :: undef :: undef :: undef :: undef :: undef :: undef :: undef :: undef :: undef :: undef :: undef :: undef :: undef :: undef :: undef :: undef :: undef :: undef :: undef :: undef :: undef :: []) k_ undef), (0 : Int), some ⟨g1, 0, none⟩, 0, ([] : List Int), congrArg Fr (by kernel_rfl), rfl, by omega, by omega, by rfl, by simp, HS⟩ ?_
  clear HS
  intro kq4 a' W5 hrel
  obtain ⟨J3, i, Ao, co, os, rfl, hk, i0, i1, ho, hol, HS⟩ := hrel
  refine wp_seq ?_
  refine wp_seq ?_
  refine wp_region_lit ?_
  refine ql (.int .i64 i) (by kernel_rfl) (by kernel_rfl) ?_
  refine ql (.int .i64 (N : Int)) (by kernel_rfl) (by kernel_rfl) ?_
  by_cases hc6 : i < (N : Int)
  · skip
    refine ql (.bool true) (by kernel_rfl) (R_bool (p := i < (N : Int)) (by kernel_rfl) (hc6)) ?_
    refine wpList_nil ?_
    refine x_then ?_
    refine wp_cond_true (by kernel_rfl) ?_
    refine wp_skip ?_
    refine x_then ?_
    refine wp_seq ?_
    refine wp_block ?_
    refine wp_region_lit ?_
    refine ql (.slice Ao os.length co) (by kernel_rfl) (by kernel_rfl) ?_
    refine kl HS 1 [.int .i64 (-1)] 3 1 (by kernel_rfl) (by kernel_rfl) rfl (by decide) ?_
    intro g7 W8 H_
    replace HS : St W (owns []) W8 [row (some ⟨g7, 0, none⟩) 1 1 (ci .i64 ([-1])) 3 1, row Ao os.length co (ci .i64 os) 3 1] := H_.cast_ (by kernel_rfl)
    clear H_
    obtain ⟨xs12, xs12_⟩ : ∃ z_ : List Int, z_ = os ++ ([-1]) := ⟨_, rfl⟩
    have xs12l : xs12.length = os.length + 1 := by rw [xs12_, List.length_append] <;> (try simp only [List.length_cons, List.length_nil]) <;> omega
    refine ka1 HS 1 rfl (Src.of_row HS (i := 0) rfl ci_one) [.int .i64 0] 8 xs12.length (ci .i64 xs12) (by omega) (by rw [xs12_, ci_app]) (by kernel_rfl) (by kernel_rfl) (by kernel_rfl) Try.underlying28 (by kernel_rfl) (by kernel_rfl) (by kernel_rfl) (by kernel_rfl) (by decide) (by omega) (by omega) ?_
    intro A9 c10 W11 H_
    replace HS : St W (owns []) W11 [row (some ⟨g7, 0, none⟩) 1 1 (ci .i64 ([-1])) 3 1, row A9 xs12.length c10 (ci .i64 xs12) 3 1] := H_
    clear H_
    refine ql (.slice A9 xs12.length c10) (by kernel_rfl) (by kernel_rfl) ?_
    refine wpList_nil ?_
    refine x_inb ?_
    refine x_then ?_
    refine wp_region_lit ?_
    refine ql (.int .i64 i) (by kernel_rfl) (by kernel_rfl) ?_
    refine ql (.int .i64 (i + 1)) (by kernel_rfl) (R_int (by kernel_rfl) (w64 (by omega))) ?_
    refine ql (.int .i64 (i + 1)) (by kernel_rfl) (by kernel_rfl) ?_
    refine wpList_nil ?_
    replace HS := HS.drop1
    refine x_then ?_
    exact ⟨N - (i + 1).toNat, by omega, (fun k_ : Nat => List.getD ((.int .i64 (N : Int)) :: (.slice A arcs.length c) :: (.int .i64 v) :: undef :: undef :: undef :: (.slice none 0 0) :: (.slice A9 xs12.length c10) :: (.int .i64 (i + 1)) :: undef :: undef :: (.slice (some ⟨g1, 0, none⟩) 0 0) :: (.int .i64 i) :: (.int .i64 (N : Int)) :: (.bool true) :: (.int .i64 i) :: (.int .i64 (i + 1)) :: (.slice Ao os.length co) :: (.slice (some ⟨g7, 0, none⟩) 1 1) :: (.slice A9 xs12.length c10) :: undef :: undef :: undef :: undef :: undef :: undef :: undef :: undef :: undef :: undef :: undef :: undef :: undef :: undef :: undef :: undef :: undef :: undef :: undef :: undef :: undef :: undef :: undef :: undef :: undef :: undef :: undef :: undef :: undef :: undef :: undef :: undef :: undef :: undef :: undef :: undef :: undef :: undef :: undef :: undef :: undef :: undef :: undef :: undef :: undef :: undef :: undef :: undef :: undef :: undef :: undef :: undef :: undef :: []) k_ undef), i + 1, A9, c10, xs12, congrArg Fr (by kernel_rfl), rfl, by omega, by omega, by rw [xs12_, ho, show (i + 1).toNat = i.toNat + 1 by omega, List.replicate_succ'], by omega, HS⟩
  · skip
    refine ql (.bool false) (by kernel_rfl) (R_nbool (p := i < (N : Int)) (by kernel_rfl) (hc6)) ?_
    refine wpList_nil ?_
    refine x_then ?_
    refine wp_cond_false (by kernel_rfl) ?_
    refine wp_exit ?_
    refine x_thenE ?_
    refine x_thenE ?_
    refine x_hit ?_
    refine x_then ?_
    refine wp_seq ?_
    refine wp_seq ?_
    have he : os = List.replicate N (-1) := by rw [ho, show i.toNat = N by omega]
    have hoN : os.length = N := by omega
    refine wp_region_lit ?_
    refine ql (.int .i64 v) (by kernel_rfl) (by kernel_rfl) ?_
    refine ql (.bool false) (by kernel_rfl) (R_nbool (p := v < (0 : Int)) (by kernel_rfl) (by omega)) ?_
    refine ql (.bool false) (by kernel_rfl) (by kernel_rfl) ?_
    refine ql (.int .i64 v) (by kernel_rfl) (by kernel_rfl) ?_
    refine ql (.int .i64 (N : Int)) (by kernel_rfl) (by kernel_rfl) ?_
    refine ql (.bool false) (by kernel_rfl) (R_nbool (p := v ≥ (N : Int)) (by kernel_rfl) (by omega)) ?_
    refine ql (.bool false) (by kernel_rfl) (by kernel_rfl) ?_
    refine wpList_nil ?_
    refine x_then ?_
    refine wp_cond_false (by kernel_rfl) ?_
    refine wp_skip ?_
    refine x_then ?_
    refine wp_seq ?_
    refine wp_region_lit ?_
    refine ql (.slice Ao os.length co) (by kernel_rfl) (by kernel_rfl) ?_
    refine ql (.int .i64 v) (by kernel_rfl) (by kernel_rfl) ?_
    obtain ⟨g13, rfl⟩ := St.rsome HS (i := 0) rfl (by omega)
    refine ql (.pointer (some ⟨g13, v.toNat, none⟩)) (by kernel_rfl) (R_index1 (k := .i64) (g := g13) (n := os.length) (c := co) (i := v) (by kernel_rfl) (by kernel_rfl) Try.underlying28 (by kernel_rfl) (by omega) (by omega)) ?_
    refine kr (v := .int .i64 0) HS 0 rfl (v.toNat) [.int .i64 0] (by kernel_rfl) (by kernel_rfl) (by kernel_rfl) (by kernel_rfl) (by kernel_rfl) (one_ (by kernel_rfl)) (by rw [ci_len]; first | omega | (simp only [List.length_singleton]; omega)) rfl ?_
    intro W14 H_
    obtain ⟨xs15, xs15_⟩ : ∃ z_ : List Int, z_ = (os).set v.toNat 0 := ⟨_, rfl⟩
    replace HS : St W (owns []) W14 [row (some ⟨g13, 0, none⟩) os.length co (ci .i64 xs15) 3 1] := H_.cast_ (by rw [xs15_, ← ci_set]; rfl)
    clear H_
    have xs15l : xs15.length = os.length := by rw [xs15_, List.length_set]; first | done | omega
    refine wpList_nil ?_
    refine x_then ?_
    refine wp_seq ?_
    refine wp_seq ?_
    refine wp_region_lit ?_
    refine ql (.int .i64 0) (by kernel_rfl) (by kernel_rfl) ?_
    refine wpList_nil ?_
    refine x_then ?_
    refine wp_block ?_
    have hst := rd_start hF h0 h1 (ds := xs15) (by rw [xs15_, he])
    refine wp_loop_ghost (fun kq a' w' => ∃ (J16 : Nat → Value) (d : Int) (ds : List Int) , a' = Fr ((.int .i64 (N : Int)) :: (.slice A arcs.length c) :: (.int .i64 v) :: undef :: undef :: undef :: (.slice none 0 0) :: (.slice (some ⟨g13, 0, none⟩) os.length co) :: (.int .i64 i) :: (.int .i64 d) :: ((J16 10)) :: (.slice (some ⟨g1, 0, none⟩) 0 0) :: (.int .i64 i) :: (.int .i64 (N : Int)) :: (.bool false) :: ((J3 15)) :: ((J3 16)) :: ((J3 17)) :: ((J3 18)) :: ((J3 19)) :: (.int .i64 v) :: (.bool false) :: (.bool false) :: (.int .i64 v) :: (.int .i64 (N : Int)) :: (.bool false) :: (.bool false) :: undef :: (.slice (some ⟨g13, 0, none⟩) os.length co) :: (.int .i64 v) :: (.pointer (some ⟨g13, v.toNat, none⟩)) :: ((J16 31)) :: ((J16 32)) :: ((J16 33)) :: ((J16 34)) :: ((J16 35)) :: ((J16 36)) :: ((J16 37)) :: ((J16 38)) :: ((J16 39)) :: ((J16 40)) :: ((J16 41)) :: ((J16 42)) :: ((J16 43)) :: ((J16 44)) :: ((J16 45)) :: ((J16 46)) :: ((J16 47)) :: ((J16 48)) :: ((J16 49)) :: ((J16 50)) :: ((J16 51)) :: ((J16 52)) :: ((J16 53)) :: ((J16 54)) :: ((J16 55)) :: ((J16 56)) :: ((J16 57)) :: ((J16 58)) :: ((J16 59)) :: ((J16 60)) :: ((J16 61)) :: ((J16 62)) :: ((J16 63)) :: ((J16 64)) :: ((J16 65)) :: ((J16 66)) :: ((J16 67)) :: ((J16 68)) :: ((J16 69)) :: ((J16 70)) :: ((J16 71)) :: undef :: []) ∧ kq = (N - (d).toNat) ∧ (0 ≤ d) ∧ (d ≤ N) ∧ (RD N arcs v d d 0 ds) ∧ ((ds).length = N) ∧ St W (owns []) w' [row (some ⟨g13, 0, none⟩) os.length co (ci .i64 ds) 3 1]) (N - ((0 : Int)).toNat) ⟨(fun k_ : Nat => List.getD ((.int .i64 (N : Int)) :: (.slice A arcs.length c) :: (.int .i64 v) :: undef :: undef :: undef :: (.slice none 0 0) :: (.slice (some ⟨g13, 0, none⟩) os.length co) :: (.int .i64 i) :: (.int .i64 0) :: undef :: (.slice (some ⟨g1, 0, none⟩) 0 0) :: (.int .i64 i) :: (.int .i64 (N : Int)) :: (.bool false) :: ((J3 15)) :: ((J3 16)) :: ((J3 17)) :: ((J3 18)) :: ((J3 19)) :: (.int .i64 v) :: (.bool false) :: (.bool false) :: (.int .i64 v) :: (.int .i64 (N : Int)) :: (.bool false) :: (.bool false) :: undef :: (.slice (some ⟨g13, 0, none⟩) os.length co) :: (.int .i64 v) :: (.pointer (some ⟨g13, v.toNat, none⟩)) :: undef :: undef :: undef :: undef :: undef :: undef :: undef :: undef :: undef :: undef :: undef :: undef :: undef :: undef :: undef :: undef :: undef :: undef :: undef :: undef :: undef :: undef :: undef :: undef :: undef :: undef :: undef :: undef :: undef :: undef :: undef :: undef :: undef :: undef :: undef :: undef :: undef :: undef :: undef :: undef :: undef :: undef :: []) k_ undef), (0 : Int), xs15, congrArg Fr (by kernel_rfl), rfl, by omega, by omega, hst, by omega, HS⟩ ?_
    clear HS
    intro kq17 a' W18 hrel
    obtain ⟨J16, d, ds, rfl, hk, d0, d1, hD, hdl, HS⟩ := hrel
    refine wp_seq ?_
    refine wp_seq ?_
    refine wp_region_lit ?_
    refine ql (.int .i64 d) (by kernel_rfl) (by kernel_rfl) ?_
    refine ql (.int .i64 (N : Int)) (by kernel_rfl) (by kernel_rfl) ?_
    by_cases hc19 : d < (N : Int)
    · skip
      refine ql (.bool true) (by kernel_rfl) (R_bool (p := d < (N : Int)) (by kernel_rfl) (hc19)) ?_
      refine wpList_nil ?_
      refine x_then ?_
      refine wp_cond_true (by kernel_rfl) ?_
      refine wp_skip ?_
      refine x_then ?_
      refine wp_seq ?_
      refine wp_block ?_
      refine wp_seq ?_
      refine wp_region_lit ?_
      refine ql (.int .i64 0) (by kernel_rfl) (by kernel_rfl) ?_
      refine wpList_nil ?_
      refine x_then ?_
      refine wp_block ?_
      refine wp_loop_ghost (fun kq a' w' => ∃ (J20 : Nat → Value) (p : Int) (ds2 : List Int) , a' = Fr ((.int .i64 (N : Int)) :: (.slice A arcs.length c) :: (.int .i64 v) :: undef :: undef :: undef :: (.slice none 0 0) :: (.slice (some ⟨g13, 0, none⟩) os.length co) :: (.int .i64 i) :: (.int .i64 d) :: (.int .i64 p) :: (.slice (some ⟨g1, 0, none⟩) 0 0) :: (.int .i64 i) :: (.int .i64 (N : Int)) :: (.bool false) :: ((J3 15)) :: ((J3 16)) :: ((J3 17)) :: ((J3 18)) :: ((J3 19)) :: (.int .i64 v) :: (.bool false) :: (.bool false) :: (.int .i64 v) :: (.int .i64 (N : Int)) :: (.bool false) :: (.bool false) :: undef :: (.slice (some ⟨g13, 0, none⟩) os.length co) :: (.int .i64 v) :: (.pointer (some ⟨g13, v.toNat, none⟩)) :: (.int .i64 d) :: (.int .i64 (N : Int)) :: (.bool true) :: ((J16 34)) :: ((J16 35)) :: ((J20 36)) :: ((J20 37)) :: ((J20 38)) :: ((J20 39)) :: ((J20 40)) :: ((J20 41)) :: ((J20 42)) :: ((J20 43)) :: ((J20 44)) :: ((J20 45)) :: ((J20 46)) :: ((J20 47)) :: ((J20 48)) :: ((J20 49)) :: ((J20 50)) :: ((J20 51)) :: ((J20 52)) :: ((J20 53)) :: ((J20 54)) :: ((J20 55)) :: ((J20 56)) :: ((J20 57)) :: ((J20 58)) :: ((J20 59)) :: ((J20 60)) :: ((J20 61)) :: ((J20 62)) :: ((J20 63)) :: ((J20 64)) :: ((J20 65)) :: ((J20 66)) :: ((J20 67)) :: ((J20 68)) :: ((J20 69)) :: ((J20 70)) :: ((J20 71)) :: undef :: []) ∧ kq = (arcs.length - (p).toNat) ∧ (0 ≤ p) ∧ (p ≤ arcs.length) ∧ (RD N arcs v (d + 1) d p ds2) ∧ ((ds2).length = N) ∧ St W (owns []) w' [row (some ⟨g13, 0, none⟩) os.length co (ci .i64 ds2) 3 1]) (arcs.length - ((0 : Int)).toNat) ⟨(fun k_ : Nat => List.getD ((.int .i64 (N : Int)) :: (.slice A arcs.length c) :: (.int .i64 v) :: undef :: undef :: undef :: (.slice none 0 0) :: (.slice (some ⟨g13, 0, none⟩) os.length co) :: (.int .i64 i) :: (.int .i64 d) :: (.int .i64 0) :: (.slice (some ⟨g1, 0, none⟩) 0 0) :: (.int .i64 i) :: (.int .i64 (N : Int)) :: (.bool false) :: ((J3 15)) :: ((J3 16)) :: ((J3 17)) :: ((J3 18)) :: ((J3 19)) :: (.int .i64 v) :: (.bool false) :: (.bool false) :: (.int .i64 v) :: (.int .i64 (N : Int)) :: (.bool false) :: (.bool false) :: undef :: (.slice (some ⟨g13, 0, none⟩) os.length co) :: (.int .i64 v) :: (.pointer (some ⟨g13, v.toNat, none⟩)) :: (.int .i64 d) :: (.int .i64 (N : Int)) :: (.bool true) :: ((J16 34)) :: ((J16 35)) :: ((J16 36)) :: ((J16 37)) :: ((J16 38)) :: ((J16 39)) :: ((J16 40)) :: ((J16 41)) :: ((J16 42)) :: ((J16 43)) :: ((J16 44)) :: ((J16 45)) :: ((J16 46)) :: ((J16 47)) :: ((J16 48)) :: ((J16 49)) :: ((J16 50)) :: ((J16 51)) :: ((J16 52)) :: ((J16 53)) :: ((J16 54)) :: ((J16 55)) :: ((J16 56)) :: ((J16 57)) :: ((J16 58)) :: ((J16 59)) :: ((J16 60)) :: ((J16 61)) :: ((J16 62)) :: ((J16 63)) :: ((J16 64)) :: ((J16 65)) :: ((J16 66)) :: ((J16 67)) :: ((J16 68)) :: ((J16 69)) :: ((J16 70)) :: ((J16 71)) :: undef :: []) k_ undef), (0 : Int), ds, congrArg Fr (by kernel_rfl), rfl, by omega, by omega, rd_in hD, hdl, HS⟩ ?_
      clear HS
      intro kq21 a' W22 hrel
      obtain ⟨J20, p, ds2, rfl, hk, p0, p1, hE, hdl2, HS⟩ := hrel
      refine wp_seq ?_
      refine wp_seq ?_
      refine wp_region_lit ?_
      refine ql (.int .i64 p) (by kernel_rfl) (by kernel_rfl) ?_
      refine ql (.slice A arcs.length c) (by kernel_rfl) (by kernel_rfl) ?_
      refine ql (.int .i64 (arcs.length : Int)) (by kernel_rfl) (by kernel_rfl) ?_
      by_cases hc23 : p < (arcs.length : Int)
      · skip
        refine ql (.bool true) (by kernel_rfl) (R_bool (p := p < (arcs.length : Int)) (by kernel_rfl) (hc23)) ?_
        refine wpList_nil ?_
        refine x_then ?_
        refine wp_cond_true (by kernel_rfl) ?_
        refine wp_skip ?_
        refine x_then ?_
        refine wp_seq ?_
        refine wp_block ?_
        refine wp_seq ?_
        have hf := gx_fine hF p0 (by omega)
        refine wp_region_lit ?_
        refine ql (.slice (some ⟨g13, 0, none⟩) os.length co) (by kernel_rfl) (by kernel_rfl) ?_
        refine ql (.slice A arcs.length c) (by kernel_rfl) (by kernel_rfl) ?_
        refine ql (.int .i64 p) (by kernel_rfl) (by kernel_rfl) ?_
        obtain ⟨ad24, rfl⟩ := Rd.isSome_ hr (by rw [cf_len (z := 2) (fun _ => rfl)]; omega)
        refine ql (.pointer (some (ad24.add (p.toNat * 2)))) (by kernel_rfl) (R_indexA (k := .i64) (p := ad24) (n := arcs.length) (c := c) (i := p) (by kernel_rfl) (by kernel_rfl) Try.underlying22 (by kernel_rfl) (by omega) (by omega)) ?_
        refine ql (.pointer (some (ad24.add (p.toNat * 2)))) (by kernel_rfl) (by kernel_rfl) ?_
        refine ql (.int .i64 ((gx arcs p).1)) (by kernel_rfl) (R_load (p := ad24.add (p.toNat * 2)) (by kernel_rfl) (by kernel_rfl) (by kernel_rfl) (HS.old0 (Rd.elem0 (f := arcC) (fun _ => rfl) hr (gx_eq (by omega) (by omega)) rfl))) ?_
        refine ql (.pointer (some ⟨g13, ((gx arcs p).1).toNat, none⟩)) (by kernel_rfl) (R_index1 (k := .i64) (g := g13) (n := os.length) (c := co) (i := (gx arcs p).1) (by kernel_rfl) (by kernel_rfl) Try.underlying28 (by kernel_rfl) (by omega) (by omega)) ?_
        refine ql (.int .i64 (rdI ds2 ((gx arcs p).1))) (by kernel_rfl) (R_load (p := ⟨g13, ((gx arcs p).1).toNat, none⟩) (by kernel_rfl) (by kernel_rfl) (by kernel_rfl) (HS.rcell (i := 0) rfl (ci_rd (by omega) (by omega)))) ?_
        refine ql (.int .i64 d) (by kernel_rfl) (by kernel_rfl) ?_
        by_cases hc25 : (rdI ds2 ((gx arcs p).1)) = d
        · skip
          refine ql (.bool true) (by kernel_rfl) (R_beq (b := (rdI ds2 ((gx arcs p).1) == d)) (by kernel_rfl) (beq_t (hc25))) ?_
          refine ql (.bool true) (by kernel_rfl) (by kernel_rfl) ?_
          refine ql (.slice (some ⟨g13, 0, none⟩) os.length co) (by kernel_rfl) (by kernel_rfl) ?_
          refine ql (.slice (some ad24) arcs.length c) (by kernel_rfl) (by kernel_rfl) ?_
          refine ql (.int .i64 p) (by kernel_rfl) (by kernel_rfl) ?_
          refine ql (.pointer (some (ad24.add (p.toNat * 2)))) (by kernel_rfl) (R_indexA (k := .i64) (p := ad24) (n := arcs.length) (c := c) (i := p) (by kernel_rfl) (by kernel_rfl) Try.underlying22 (by kernel_rfl) (by omega) (by omega)) ?_
          refine ql (.pointer (some ((ad24.add (p.toNat * 2)).add 1))) (by kernel_rfl) (by kernel_rfl) ?_
          refine ql (.int .i64 ((gx arcs p).2)) (by kernel_rfl) (R_load (p := (ad24.add (p.toNat * 2)).add 1) (by kernel_rfl) (by kernel_rfl) (by kernel_rfl) (HS.old0 (Rd.elem1 (k := 1) (f := arcC) (fun _ => rfl) hr (gx_eq (by omega) (by omega)) rfl))) ?_
          refine ql (.pointer (some ⟨g13, ((gx arcs p).2).toNat, none⟩)) (by kernel_rfl) (R_index1 (k := .i64) (g := g13) (n := os.length) (c := co) (i := (gx arcs p).2) (by kernel_rfl) (by kernel_rfl) Try.underlying28 (by kernel_rfl) (by omega) (by omega)) ?_
          refine ql (.int .i64 (rdI ds2 ((gx arcs p).2))) (by kernel_rfl) (R_load (p := ⟨g13, ((gx arcs p).2).toNat, none⟩) (by kernel_rfl) (by kernel_rfl) (by kernel_rfl) (HS.rcell (i := 0) rfl (ci_rd (by omega) (by omega)))) ?_
          by_cases hc26 : (rdI ds2 ((gx arcs p).2)) < (0 : Int)
          · skip
            refine ql (.bool true) (by kernel_rfl) (R_bool (p := (rdI ds2 ((gx arcs p).2)) < (0 : Int)) (by kernel_rfl) (hc26)) ?_
            refine ql (.bool true) (by kernel_rfl) (by kernel_rfl) ?_
            refine wpList_nil ?_
            refine x_then ?_
            refine wp_cond_true (by kernel_rfl) ?_
            refine wp_region_lit ?_
            refine ql (.slice (some ⟨g13, 0, none⟩) os.length co) (by kernel_rfl) (by kernel_rfl) ?_
            refine ql (.slice (some ad24) arcs.length c) (by kernel_rfl) (by kernel_rfl) ?_
            refine ql (.int .i64 p) (by kernel_rfl) (by kernel_rfl) ?_
            refine ql (.pointer (some (ad24.add (p.toNat * 2)))) (by kernel_rfl) (R_indexA (k := .i64) (p := ad24) (n := arcs.length) (c := c) (i := p) (by kernel_rfl) (by kernel_rfl) Try.underlying22 (by kernel_rfl) (by omega) (by omega)) ?_
            refine ql (.pointer (some ((ad24.add (p.toNat * 2)).add 1))) (by kernel_rfl) (by kernel_rfl) ?_
            refine ql (.int .i64 ((gx arcs p).2)) (by kernel_rfl) (R_load (p := (ad24.add (p.toNat * 2)).add 1) (by kernel_rfl) (by kernel_rfl) (by kernel_rfl) (HS.old0 (Rd.elem1 (k := 1) (f := arcC) (fun _ => rfl) hr (gx_eq (by omega) (by omega)) rfl))) ?_
            refine ql (.int .i64 d) (by kernel_rfl) (by kernel_rfl) ?_
            refine ql (.int .i64 (d + 1)) (by kernel_rfl) (R_int (by kernel_rfl) (w64 (by omega))) ?_
            refine ql (.pointer (some ⟨g13, ((gx arcs p).2).toNat, none⟩)) (by kernel_rfl) (R_index1 (k := .i64) (g := g13) (n := os.length) (c := co) (i := (gx arcs p).2) (by kernel_rfl) (by kernel_rfl) Try.underlying28 (by kernel_rfl) (by omega) (by omega)) ?_
            refine kr (v := .int .i64 (d + 1)) HS 0 rfl (((gx arcs p).2).toNat) [.int .i64 (d + 1)] (by kernel_rfl) (by kernel_rfl) (by kernel_rfl) (by kernel_rfl) (by kernel_rfl) (one_ (by kernel_rfl)) (by rw [ci_len]; first | omega | (simp only [List.length_singleton]; omega)) rfl ?_
            intro W27 H_
            obtain ⟨xs28, xs28_⟩ : ∃ z_ : List Int, z_ = (ds2).set ((gx arcs p).2).toNat (d + 1) := ⟨_, rfl⟩
            replace HS : St W (owns []) W27 [row (some ⟨g13, 0, none⟩) os.length co (ci .i64 xs28) 3 1] := H_.cast_ (by rw [xs28_, ← ci_set]; rfl)
            clear H_
            have xs28l : xs28.length = os.length := by rw [xs28_, List.length_set]; first | done | omega
            refine wpList_nil ?_
            refine x_inb ?_
            refine x_then ?_
            refine wp_region_lit ?_
            refine ql (.int .i64 p) (by kernel_rfl) (by kernel_rfl) ?_
            refine ql (.int .i64 (p + 1)) (by kernel_rfl) (R_int (by kernel_rfl) (w64 (by omega))) ?_
            refine ql (.int .i64 (p + 1)) (by kernel_rfl) (by kernel_rfl) ?_
            refine wpList_nil ?_
            have hst := rd_set hF hE d0 p0 (by omega) hc25 hc26 xs28_
            refine x_then ?_
            exact ⟨arcs.length - (p + 1).toNat, by omega, (fun k_ : Nat => List.getD ((.int .i64 (N : Int)) :: (.slice (some ad24) arcs.length c) :: (.int .i64 v) :: undef :: undef :: undef :: (.slice none 0 0) :: (.slice (some ⟨g13, 0, none⟩) os.length co) :: (.int .i64 i) :: (.int .i64 d) :: (.int .i64 (p + 1)) :: (.slice (some ⟨g1, 0, none⟩) 0 0) :: (.int .i64 i) :: (.int .i64 (N : Int)) :: (.bool false) :: ((J3 15)) :: ((J3 16)) :: ((J3 17)) :: ((J3 18)) :: ((J3 19)) :: (.int .i64 v) :: (.bool false) :: (.bool false) :: (.int .i64 v) :: (.int .i64 (N : Int)) :: (.bool false) :: (.bool false) :: undef :: (.slice (some ⟨g13, 0, none⟩) os.length co) :: (.int .i64 v) :: (.pointer (some ⟨g13, v.toNat, none⟩)) :: (.int .i64 d) :: (.int .i64 (N : Int)) :: (.bool true) :: ((J16 34)) :: ((J16 35)) :: (.int .i64 p) :: (.slice (some ad24) arcs.length c) :: (.int .i64 (arcs.length : Int)) :: (.bool true) :: (.int .i64 p) :: (.int .i64 (p + 1)) :: (.slice (some ⟨g13, 0, none⟩) os.length co) :: (.slice (some ad24) arcs.length c) :: (.int .i64 p) :: (.pointer (some (ad24.add (p.toNat * 2)))) :: (.pointer (some (ad24.add (p.toNat * 2)))) :: (.int .i64 ((gx arcs p).1)) :: (.pointer (some ⟨g13, ((gx arcs p).1).toNat, none⟩)) :: (.int .i64 (rdI ds2 ((gx arcs p).1))) :: (.int .i64 d) :: (.bool true) :: (.bool true) :: (.slice (some ⟨g13, 0, none⟩) os.length co) :: (.slice (some ad24) arcs.length c) :: (.int .i64 p) :: (.pointer (some (ad24.add (p.toNat * 2)))) :: (.pointer (some ((ad24.add (p.toNat * 2)).add 1))) :: (.int .i64 ((gx arcs p).2)) :: (.pointer (some ⟨g13, ((gx arcs p).2).toNat, none⟩)) :: (.int .i64 (rdI ds2 ((gx arcs p).2))) :: (.bool true) :: (.bool true) :: (.slice (some ⟨g13, 0, none⟩) os.length co) :: (.slice (some ad24) arcs.length c) :: (.int .i64 p) :: (.pointer (some (ad24.add (p.toNat * 2)))) :: (.pointer (some ((ad24.add (p.toNat * 2)).add 1))) :: (.int .i64 ((gx arcs p).2)) :: (.int .i64 d) :: (.int .i64 (d + 1)) :: (.pointer (some ⟨g13, ((gx arcs p).2).toNat, none⟩)) :: undef :: []) k_ undef), p + 1, xs28, congrArg Fr (by kernel_rfl), rfl, by omega, by omega, hst, hst.ld, HS⟩
          · skip
            refine ql (.bool false) (by kernel_rfl) (R_nbool (p := (rdI ds2 ((gx arcs p).2)) < (0 : Int)) (by kernel_rfl) (hc26)) ?_
            refine ql (.bool false) (by kernel_rfl) (by kernel_rfl) ?_
            refine wpList_nil ?_
            refine x_then ?_
            refine wp_cond_false (by kernel_rfl) ?_
            refine wp_skip ?_
            refine x_inb ?_
            refine x_then ?_
            refine wp_region_lit ?_
            refine ql (.int .i64 p) (by kernel_rfl) (by kernel_rfl) ?_
            refine ql (.int .i64 (p + 1)) (by kernel_rfl) (R_int (by kernel_rfl) (w64 (by omega))) ?_
            refine ql (.int .i64 (p + 1)) (by kernel_rfl) (by kernel_rfl) ?_
            refine wpList_nil ?_
            have hst := rd_skip hF hE (fun _ => hc26)
            refine x_then ?_
            exact ⟨arcs.length - (p + 1).toNat, by omega, (fun k_ : Nat => List.getD ((.int .i64 (N : Int)) :: (.slice (some ad24) arcs.length c) :: (.int .i64 v) :: undef :: undef :: undef :: (.slice none 0 0) :: (.slice (some ⟨g13, 0, none⟩) os.length co) :: (.int .i64 i) :: (.int .i64 d) :: (.int .i64 (p + 1)) :: (.slice (some ⟨g1, 0, none⟩) 0 0) :: (.int .i64 i) :: (.int .i64 (N : Int)) :: (.bool false) :: ((J3 15)) :: ((J3 16)) :: ((J3 17)) :: ((J3 18)) :: ((J3 19)) :: (.int .i64 v) :: (.bool false) :: (.bool false) :: (.int .i64 v) :: (.int .i64 (N : Int)) :: (.bool false) :: (.bool false) :: undef :: (.slice (some ⟨g13, 0, none⟩) os.length co) :: (.int .i64 v) :: (.pointer (some ⟨g13, v.toNat, none⟩)) :: (.int .i64 d) :: (.int .i64 (N : Int)) :: (.bool true) :: ((J16 34)) :: ((J16 35)) :: (.int .i64 p) :: (.slice (some ad24) arcs.length c) :: (.int .i64 (arcs.length : Int)) :: (.bool true) :: (.int .i64 p) :: (.int .i64 (p + 1)) :: (.slice (some ⟨g13, 0, none⟩) os.length co) :: (.slice (some ad24) arcs.length c) :: (.int .i64 p) :: (.pointer (some (ad24.add (p.toNat * 2)))) :: (.pointer (some (ad24.add (p.toNat * 2)))) :: (.int .i64 ((gx arcs p).1)) :: (.pointer (some ⟨g13, ((gx arcs p).1).toNat, none⟩)) :: (.int .i64 (rdI ds2 ((gx arcs p).1))) :: (.int .i64 d) :: (.bool true) :: (.bool true) :: (.slice (some ⟨g13, 0, none⟩) os.length co) :: (.slice (some ad24) arcs.length c) :: (.int .i64 p) :: (.pointer (some (ad24.add (p.toNat * 2)))) :: (.pointer (some ((ad24.add (p.toNat * 2)).add 1))) :: (.int .i64 ((gx arcs p).2)) :: (.pointer (some ⟨g13, ((gx arcs p).2).toNat, none⟩)) :: (.int .i64 (rdI ds2 ((gx arcs p).2))) :: (.bool false) :: (.bool false) :: ((J20 63)) :: ((J20 64)) :: ((J20 65)) :: ((J20 66)) :: ((J20 67)) :: ((J20 68)) :: ((J20 69)) :: ((J20 70)) :: ((J20 71)) :: undef :: []) k_ undef), p + 1, ds2, congrArg Fr (by kernel_rfl), rfl, by omega, by omega, hst, hst.ld, HS⟩
        · skip
          refine ql (.bool false) (by kernel_rfl) (R_beq (b := (rdI ds2 ((gx arcs p).1) == d)) (by kernel_rfl) (beq_f (hc25))) ?_
          refine ql (.bool false) (by kernel_rfl) (by kernel_rfl) ?_
          refine qln (by kernel_rfl) ?_
          refine qln (by kernel_rfl) ?_
          refine qln (by kernel_rfl) ?_
          refine qln (by kernel_rfl) ?_
          refine qln (by kernel_rfl) ?_
          refine qln (by kernel_rfl) ?_
          refine qln (by kernel_rfl) ?_
          refine qln (by kernel_rfl) ?_
          refine qln (by kernel_rfl) ?_
          refine ql (.bool false) (by kernel_rfl) (by kernel_rfl) ?_
          refine wpList_nil ?_
          refine x_then ?_
          refine wp_cond_false (by kernel_rfl) ?_
          refine wp_skip ?_
          refine x_inb ?_
          refine x_then ?_
          refine wp_region_lit ?_
          refine ql (.int .i64 p) (by kernel_rfl) (by kernel_rfl) ?_
          refine ql (.int .i64 (p + 1)) (by kernel_rfl) (R_int (by kernel_rfl) (w64 (by omega))) ?_
          refine ql (.int .i64 (p + 1)) (by kernel_rfl) (by kernel_rfl) ?_
          refine wpList_nil ?_
          have hst := rd_skip hF hE (fun h_ => absurd h_ hc25)
          refine x_then ?_
          exact ⟨arcs.length - (p + 1).toNat, by omega, (fun k_ : Nat => List.getD ((.int .i64 (N : Int)) :: (.slice (some ad24) arcs.length c) :: (.int .i64 v) :: undef :: undef :: undef :: (.slice none 0 0) :: (.slice (some ⟨g13, 0, none⟩) os.length co) :: (.int .i64 i) :: (.int .i64 d) :: (.int .i64 (p + 1)) :: (.slice (some ⟨g1, 0, none⟩) 0 0) :: (.int .i64 i) :: (.int .i64 (N : Int)) :: (.bool false) :: ((J3 15)) :: ((J3 16)) :: ((J3 17)) :: ((J3 18)) :: ((J3 19)) :: (.int .i64 v) :: (.bool false) :: (.bool false) :: (.int .i64 v) :: (.int .i64 (N : Int)) :: (.bool false) :: (.bool false) :: undef :: (.slice (some ⟨g13, 0, none⟩) os.length co) :: (.int .i64 v) :: (.pointer (some ⟨g13, v.toNat, none⟩)) :: (.int .i64 d) :: (.int .i64 (N : Int)) :: (.bool true) :: ((J16 34)) :: ((J16 35)) :: (.int .i64 p) :: (.slice (some ad24) arcs.length c) :: (.int .i64 (arcs.length : Int)) :: (.bool true) :: (.int .i64 p) :: (.int .i64 (p + 1)) :: (.slice (some ⟨g13, 0, none⟩) os.length co) :: (.slice (some ad24) arcs.length c) :: (.int .i64 p) :: (.pointer (some (ad24.add (p.toNat * 2)))) :: (.pointer (some (ad24.add (p.toNat * 2)))) :: (.int .i64 ((gx arcs p).1)) :: (.pointer (some ⟨g13, ((gx arcs p).1).toNat, none⟩)) :: (.int .i64 (rdI ds2 ((gx arcs p).1))) :: (.int .i64 d) :: (.bool false) :: (.bool false) :: undef :: undef :: undef :: undef :: undef :: undef :: undef :: undef :: undef :: (.bool false) :: ((J20 63)) :: ((J20 64)) :: ((J20 65)) :: ((J20 66)) :: ((J20 67)) :: ((J20 68)) :: ((J20 69)) :: ((J20 70)) :: ((J20 71)) :: undef :: []) k_ undef), p + 1, ds2, congrArg Fr (by kernel_rfl), rfl, by omega, by omega, hst, hst.ld, HS⟩
      · skip
        refine ql (.bool false) (by kernel_rfl) (R_nbool (p := p < (arcs.length : Int)) (by kernel_rfl) (hc23)) ?_
        refine wpList_nil ?_
        refine x_then ?_
        refine wp_cond_false (by kernel_rfl) ?_
        refine wp_exit ?_
        refine x_thenE ?_
        refine x_thenE ?_
        refine x_hit ?_
        refine x_inb ?_
        refine x_then ?_
        refine wp_region_lit ?_
        refine ql (.int .i64 d) (by kernel_rfl) (by kernel_rfl) ?_
        refine ql (.int .i64 (d + 1)) (by kernel_rfl) (R_int (by kernel_rfl) (w64 (by omega))) ?_
        refine ql (.int .i64 (d + 1)) (by kernel_rfl) (by kernel_rfl) ?_
        refine wpList_nil ?_
        refine x_then ?_
        exact ⟨N - (d + 1).toNat, by omega, (fun k_ : Nat => List.getD ((.int .i64 (N : Int)) :: (.slice A arcs.length c) :: (.int .i64 v) :: undef :: undef :: undef :: (.slice none 0 0) :: (.slice (some ⟨g13, 0, none⟩) os.length co) :: (.int .i64 i) :: (.int .i64 (d + 1)) :: (.int .i64 p) :: (.slice (some ⟨g1, 0, none⟩) 0 0) :: (.int .i64 i) :: (.int .i64 (N : Int)) :: (.bool false) :: ((J3 15)) :: ((J3 16)) :: ((J3 17)) :: ((J3 18)) :: ((J3 19)) :: (.int .i64 v) :: (.bool false) :: (.bool false) :: (.int .i64 v) :: (.int .i64 (N : Int)) :: (.bool false) :: (.bool false) :: undef :: (.slice (some ⟨g13, 0, none⟩) os.length co) :: (.int .i64 v) :: (.pointer (some ⟨g13, v.toNat, none⟩)) :: (.int .i64 d) :: (.int .i64 (N : Int)) :: (.bool true) :: (.int .i64 d) :: (.int .i64 (d + 1)) :: (.int .i64 p) :: (.slice A arcs.length c) :: (.int .i64 (arcs.length : Int)) :: (.bool false) :: ((J20 40)) :: ((J20 41)) :: ((J20 42)) :: ((J20 43)) :: ((J20 44)) :: ((J20 45)) :: ((J20 46)) :: ((J20 47)) :: ((J20 48)) :: ((J20 49)) :: ((J20 50)) :: ((J20 51)) :: ((J20 52)) :: ((J20 53)) :: ((J20 54)) :: ((J20 55)) :: ((J20 56)) :: ((J20 57)) :: ((J20 58)) :: ((J20 59)) :: ((J20 60)) :: ((J20 61)) :: ((J20 62)) :: ((J20 63)) :: ((J20 64)) :: ((J20 65)) :: ((J20 66)) :: ((J20 67)) :: ((J20 68)) :: ((J20 69)) :: ((J20 70)) :: ((J20 71)) :: undef :: []) k_ undef), d + 1, ds2, congrArg Fr (by kernel_rfl), rfl, by omega, by omega, rd_out hE (by omega), hdl2, HS⟩
    · skip
      refine ql (.bool false) (by kernel_rfl) (R_nbool (p := d < (N : Int)) (by kernel_rfl) (hc19)) ?_
      refine wpList_nil ?_
      refine x_then ?_
      refine wp_cond_false (by kernel_rfl) ?_
      refine wp_exit ?_
      refine x_thenE ?_
      refine x_thenE ?_
      refine x_hit ?_
      refine x_then ?_
      refine wp_seq ?_
      refine wp_region_lit ?_
      refine ql (.slice (some ⟨g13, 0, none⟩) os.length co) (by kernel_rfl) (by kernel_rfl) ?_
      refine ql (.slice (some ⟨g13, 0, none⟩) os.length co) (by kernel_rfl) (by kernel_rfl) ?_
      refine wpList_nil ?_
      refine x_then ?_
      refine wp_ret ?_
      refine ret_ (.slice (some ⟨g13, 0, none⟩) os.length co) (by kernel_rfl) ?_
      rw [show os.length = ds.length by omega] at HS ⊢
      exact ⟨_, _, ds, rfl, HS, rd_done hF hD (by omega)⟩

set_option maxRecDepth 100000 in
set_option maxHeartbeats 1000000 in
theorem rdist_no (N : Nat) (A : Option Addr) (c : Nat) (arcs : List (Int × Int)) (W : World) (hr : Rd W A (cf arcC arcs)) (hl : arcs.length ≤ 1048576) (v : Int) (hF : Fine N arcs) (hN : N ≤ 1048576) (hv : ¬ (0 ≤ v ∧ v < N)) : Calls Try.prog 33 #[.int .i64 (N : Int), .slice A arcs.length c, .int .i64 v] W fun e W' => ∃ A' c' ds, e = .returned (.slice A' ds.length c') ∧ St W (owns []) W' [row A' ds.length c' (ci .i64 ds) 3 1] ∧ DS N arcs v ds := by
  have HS : St W (owns []) W [] := St.start W _
  refine calls_enter ((.int .i64 (N : Int)) :: (.slice A arcs.length c) :: (.int .i64 v) :: undef :: undef :: undef :: undef :: undef :: undef :: undef :: undef :: undef :: undef :: undef :: undef :: undef :: undef :: undef :: undef :: undef :: undef :: undef :: undef :: undef :: undef :: undef :: undef :: undef :: undef :: undef :: undef :: undef :: undef :: undef :: undef :: undef :: undef :: undef :: undef :: undef :: undef :: undef :: undef :: undef :: undef :: undef :: undef :: undef :: undef :: undef :: undef :: undef :: undef :: undef :: undef :: undef :: undef :: undef :: undef :: undef :: undef :: undef :: undef :: undef :: undef :: undef :: undef :: undef :: undef :: undef :: undef :: undef :: undef :: []) Try.func33 rfl (by kernel_rfl) ?_
  refine wp_seq ?_
  refine wp_region_lit ?_
  refine ql (.slice none 0 0) (by kernel_rfl) (by kernel_rfl) ?_
  refine wpList_nil ?_
  refine x_then ?_
  refine wp_seq ?_
  refine wp_region_lit ?_
  refine kl HS 0 [] 3 1 (by kernel_rfl) (by kernel_rfl) rfl (by decide) ?_
  intro g1 W2 H_
  replace HS : St W (owns []) W2 [row (some ⟨g1, 0, none⟩) 0 0 (ci .i64 ([])) 3 1] := H_.cast_ (by kernel_rfl)
  clear H_
  refine ql (.slice (some ⟨g1, 0, none⟩) 0 0) (by kernel_rfl) (by kernel_rfl) ?_
  refine wpList_nil ?_
  refine x_then ?_
  refine wp_seq ?_
  refine wp_seq ?_
  refine wp_region_lit ?_
  refine ql (.int .i64 0) (by kernel_rfl) (by kernel_rfl) ?_
  refine wpList_nil ?_
  refine x_then ?_
  refine wp_block ?_
  refine wp_loop_ghost (fun kq a' w' => ∃ (J3 : Nat → Value) (i : Int) (Ao : Option Addr) (co : Nat) (os : List Int) , a' = Fr ((.int .i64 (N : Int)) :: (.slice A arcs.length c) :: (.int .i64 v) :: undef :: undef :: undef :: (.slice none 0 0) :: (.slice Ao os.length co) :: (.int .i64 i) :: undef :: undef :: (.slice (some ⟨g1, 0, none⟩) 0 0) :: ((J3 12)) :: ((J3 13)) :: ((J3 14)) :: ((J3 15)) :: ((J3 16)) :: ((J3 17)) :: ((J3 18)) :: ((J3 19)) :: undef :: undef :: undef :: undef :: undef :: undef :: undef :: undef :: undef :: undef :: undef :: undef :: undef :: undef :: undef :: undef :: undef :: undef :: undef :: undef :: undef :: undef :: undef :: undef :: undef :: undef :: undef :: undef :: undef :: undef :: undef :: undef :: undef :: undef :: undef :: undef :: undef :: undef :: undef :: undef :: undef :: undef :: undef :: undef :: undef :: undef :: undef :: undef :: undef :: undef :: undef :: undef :: undef :: []) ∧ kq = (N - (i).toNat) ∧ (0 ≤ i) ∧ (i ≤ N) ∧ (os = List.replicate (i).toNat (-1)) ∧ ((os.length : Int) = i) ∧ St W (owns []) w' [row Ao os.length co (ci .i64 os) 3 1]) (N - ((0 : Int)).toNat) ⟨(fun k_ : Nat => List.getD ((.int .i64 (N : Int)) :: (.slice A arcs.length c) :: (.int .i64 v) :: undef :: undef :: undef :: (.slice none 0 0) :: (.slice (some ⟨g1, 0, none⟩) 0 0) :: (.int .i64 0) :: undef :: undef :: (.slice (some ⟨g1, 0, none⟩) 0 0) :: undef :: undef :: undef :: undef :: undef :: undef :: undef :: undef :: undef :: undef :: undef :: undef :: undef :: undef :: undef :: undef :: undef :: undef :: undef :: undef :: undef :: undef :: undef :: undef :: undef :: undef :: undef :: undef :: undef :: undef :: undef :: undef :: undef :: undef :: undef :: undef :: undef :: undef :: undef :: undef :: undef :: undef :: undef :: undef :: undef :: undef :: undef :: undef :: undef :: undef :: undef :: undef :: undef :: undef :: undef :: undef :: undef :: undef :: undef :: undef :: undef :: []) k_ undef), (0 : Int), some ⟨g1, 0, none⟩, 0, ([] : List Int), congrArg Fr (by kernel_rfl), rfl, by omega, by omega, by rfl, by simp, HS⟩ ?_
  clear HS
  intro kq4 a' W5 hrel
  obtain ⟨J3, i, Ao, co, os, rfl, hk, i0, i1, ho, hol, HS⟩ := hrel
  refine wp_seq ?_
  refine wp_seq ?_
  refine wp_region_lit ?_
  refine ql (.int .i64 i) (by kernel_rfl) (by kernel_rfl) ?_
  refine ql (.int .i64 (N : Int)) (by kernel_rfl) (by kernel_rfl) ?_
  by_cases hc6 : i < (N : Int)
  · skip
    refine ql (.bool true) (by kernel_rfl) (R_bool (p := i < (N : Int)) (by kernel_rfl) (hc6)) ?_
    refine wpList_nil ?_
    refine x_then ?_
    refine wp_cond_true (by kernel_rfl) ?_
    refine wp_skip ?_
    refine x_then ?_
    refine wp_seq ?_
    refine wp_block ?_
    refine wp_region_lit ?_
    refine ql (.slice Ao os.length co) (by kernel_rfl) (by kernel_rfl) ?_
    refine kl HS 1 [.int .i64 (-1)] 3 1 (by kernel_rfl) (by kernel_rfl) rfl (by decide) ?_
    intro g7 W8 H_
    replace HS : St W (owns []) W8 [row (some ⟨g7, 0, none⟩) 1 1 (ci .i64 ([-1])) 3 1, row Ao os.length co (ci .i64 os) 3 1] := H_.cast_ (by kernel_rfl)
    clear H_
    obtain ⟨xs12, xs12_⟩ : ∃ z_ : List Int, z_ = os ++ ([-1]) := ⟨_, rfl⟩
    have xs12l : xs12.length = os.length + 1 := by rw [xs12_, List.length_append] <;> (try simp only [List.length_cons, List.length_nil]) <;> omega
    refine ka1 HS 1 rfl (Src.of_row HS (i := 0) rfl ci_one) [.int .i64 0] 8 xs12.length (ci .i64 xs12) (by omega) (by rw [xs12_, ci_app]) (by kernel_rfl) (by kernel_rfl) (by kernel_rfl) Try.underlying28 (by kernel_rfl) (by kernel_rfl) (by kernel_rfl) (by kernel_rfl) (by decide) (by omega) (by omega) ?_
    intro A9 c10 W11 H_
    replace HS : St W (owns []) W11 [row (some ⟨g7, 0, none⟩) 1 1 (ci .i64 ([-1])) 3 1, row A9 xs12.length c10 (ci .i64 xs12) 3 1] := H_
    clear H_
    refine ql (.slice A9 xs12.length c10) (by kernel_rfl) (by kernel_rfl) ?_
    refine wpList_nil ?_
    refine x_inb ?_
    refine x_then ?_
    refine wp_region_lit ?_
    refine ql (.int .i64 i) (by kernel_rfl) (by kernel_rfl) ?_
    refine ql (.int .i64 (i + 1)) (by kernel_rfl) (R_int (by kernel_rfl) (w64 (by omega))) ?_
    refine ql (.int .i64 (i + 1)) (by kernel_rfl) (by kernel_rfl) ?_
    refine wpList_nil ?_
    replace HS := HS.drop1
    refine x_then ?_
    exact ⟨N - (i + 1).toNat, by omega, (fun k_ : Nat => List.getD ((.int .i64 (N : Int)) :: (.slice A arcs.length c) :: (.int .i64 v) :: undef :: undef :: undef :: (.slice none 0 0) :: (.slice A9 xs12.length c10) :: (.int .i64 (i + 1)) :: undef :: undef :: (.slice (some ⟨g1, 0, none⟩) 0 0) :: (.int .i64 i) :: (.int .i64 (N : Int)) :: (.bool true) :: (.int .i64 i) :: (.int .i64 (i + 1)) :: (.slice Ao os.length co) :: (.slice (some ⟨g7, 0, none⟩) 1 1) :: (.slice A9 xs12.length c10) :: undef :: undef :: undef :: undef :: undef :: undef :: undef :: undef :: undef :: undef :: undef :: undef :: undef :: undef :: undef :: undef :: undef :: undef :: undef :: undef :: undef :: undef :: undef :: undef :: undef :: undef :: undef :: undef :: undef :: undef :: undef :: undef :: undef :: undef :: undef :: undef :: undef :: undef :: undef :: undef :: undef :: undef :: undef :: undef :: undef :: undef :: undef :: undef :: undef :: undef :: undef :: undef :: undef :: []) k_ undef), i + 1, A9, c10, xs12, congrArg Fr (by kernel_rfl), rfl, by omega, by omega, by rw [xs12_, ho, show (i + 1).toNat = i.toNat + 1 by omega, List.replicate_succ'], by omega, HS⟩
  · skip
    refine ql (.bool false) (by kernel_rfl) (R_nbool (p := i < (N : Int)) (by kernel_rfl) (hc6)) ?_
    refine wpList_nil ?_
    refine x_then ?_
    refine wp_cond_false (by kernel_rfl) ?_
    refine wp_exit ?_
    refine x_thenE ?_
    refine x_thenE ?_
    refine x_hit ?_
    refine x_then ?_
    refine wp_seq ?_
    refine wp_seq ?_
    have he : os = List.replicate N (-1) := by rw [ho, show i.toNat = N by omega]
    have hoN : os.length = N := by omega
    refine wp_region_lit ?_
    refine ql (.int .i64 v) (by kernel_rfl) (by kernel_rfl) ?_
    by_cases hc13 : v < (0 : Int)
    · skip
      refine ql (.bool true) (by kernel_rfl) (R_bool (p := v < (0 : Int)) (by kernel_rfl) (hc13)) ?_
      refine ql (.bool true) (by kernel_rfl) (by kernel_rfl) ?_
      refine qln (by kernel_rfl) ?_
      refine qln (by kernel_rfl) ?_
      refine qln (by kernel_rfl) ?_
      refine ql (.bool true) (by kernel_rfl) (by kernel_rfl) ?_
      refine wpList_nil ?_
      refine x_then ?_
      refine wp_cond_true (by kernel_rfl) ?_
      refine wp_seq ?_
      refine wp_region_lit ?_
      refine ql (.slice Ao os.length co) (by kernel_rfl) (by kernel_rfl) ?_
      refine ql (.slice Ao os.length co) (by kernel_rfl) (by kernel_rfl) ?_
      refine wpList_nil ?_
      refine x_then ?_
      refine wp_ret ?_
      refine x_thenR ?_
      refine ret_ (.slice Ao os.length co) (by kernel_rfl) ?_
      exact ⟨_, _, os, rfl, HS, by rw [he]; exact ds_none hF hv⟩
    · skip
      refine ql (.bool false) (by kernel_rfl) (R_nbool (p := v < (0 : Int)) (by kernel_rfl) (hc13)) ?_
      refine ql (.bool false) (by kernel_rfl) (by kernel_rfl) ?_
      refine ql (.int .i64 v) (by kernel_rfl) (by kernel_rfl) ?_
      refine ql (.int .i64 (N : Int)) (by kernel_rfl) (by kernel_rfl) ?_
      refine ql (.bool true) (by kernel_rfl) (R_bool (p := v ≥ (N : Int)) (by kernel_rfl) (by omega)) ?_
      refine ql (.bool true) (by kernel_rfl) (by kernel_rfl) ?_
      refine wpList_nil ?_
      refine x_then ?_
      refine wp_cond_true (by kernel_rfl) ?_
      refine wp_seq ?_
      refine wp_region_lit ?_
      refine ql (.slice Ao os.length co) (by kernel_rfl) (by kernel_rfl) ?_
      refine ql (.slice Ao os.length co) (by kernel_rfl) (by kernel_rfl) ?_
      refine wpList_nil ?_
      refine x_then ?_
      refine wp_ret ?_
      refine x_thenR ?_
      refine ret_ (.slice Ao os.length co) (by kernel_rfl) ?_
      exact ⟨_, _, os, rfl, HS, by rw [he]; exact ds_none hF hv⟩

theorem rdist (N : Nat) (A : Option Addr) (c : Nat) (arcs : List (Int × Int)) (W : World) (hr : Rd W A (cf arcC arcs)) (hl : arcs.length ≤ 1048576) (v : Int) (hF : Fine N arcs) (hN : N ≤ 1048576) (ds : List Int) (hD : DS N arcs v ds) : Calls Try.prog 33 #[.int .i64 (N : Int), .slice A arcs.length c, .int .i64 v] W fun e W' => ∃ A' c', e = .returned (.slice A' ds.length c') ∧ St W (owns []) W' [row A' ds.length c' (ci .i64 ds) 3 1] := by
  by_cases hv : 0 ≤ v ∧ v < N
  · refine (rdist_yes N A c arcs W hr hl v hF hN hv.1 hv.2).mono ?_
    rintro e W' ⟨A', c', es, he, hs, hd⟩
    obtain rfl := ds_eq hF hD hd
    exact ⟨A', c', he, hs⟩
  · refine (rdist_no N A c arcs W hr hl v hF hN hv).mono ?_
    rintro e W' ⟨A', c', es, he, hs, hd⟩
    obtain rfl := ds_eq hF hD hd
    exact ⟨A', c', he, hs⟩

set_option maxRecDepth 100000 in
set_option maxHeartbeats 1000000 in
theorem rback (N : Nat) (A : Option Addr) (c : Nat) (arcs : List (Int × Int)) (W : World) (hr : Rd W A (cf arcC arcs)) (hl : arcs.length ≤ 1048576) (D : Option Addr) (cd : Nat) (ds bs : List Int) (v w : Int) (hrd : Rd W D (ci .i64 ds)) (hF : Fine N arcs) (hN : N ≤ 1048576) (hD : DS N arcs v ds) (hK : BK N arcs ds bs) (w0 : 0 ≤ w) (w1 : w < N) : Calls Try.prog 35 #[.slice A arcs.length c, .slice D ds.length cd, .int .i64 w] W fun e W' => e = .returned (.int .i64 (rdI bs w)) ∧ St W (owns []) W' [] := by
  have HS : St W (owns []) W [] := St.start W _
  have hld := hD.ld
  have hbk := hK
  refine calls_enter [.slice A arcs.length c, .slice D ds.length cd, .int .i64 w, undef, undef, undef, undef, undef, undef, undef, undef, undef, undef, undef, undef, undef, undef, undef, undef, undef, undef, undef, undef, undef, undef, undef, undef, undef, undef, undef, undef, undef, undef, undef, undef, undef, undef, undef, undef, undef, undef, undef, undef, undef, undef] Try.func35 rfl (by kernel_rfl) ?_
  refine wp_seq ?_
  refine wp_region_lit ?_
  refine ql (.int .i64 0) (by kernel_rfl) (by kernel_rfl) ?_
  refine wpList_nil ?_
  refine x_then ?_
  refine wp_seq ?_
  refine wp_seq ?_
  refine wp_region_lit ?_
  refine ql (.int .i64 0) (by kernel_rfl) (by kernel_rfl) ?_
  refine wpList_nil ?_
  refine x_then ?_
  refine wp_block ?_
  refine wp_loop_ghost (fun kq a' w' => ∃ (J1 : Nat → Value) (i : Int) , a' = Fr [.slice A arcs.length c, .slice D ds.length cd, .int .i64 w, undef, undef, undef, (J1 6), .int .i64 i, (J1 8), (J1 9), (J1 10), (J1 11), (J1 12), (J1 13), (J1 14), (J1 15), (J1 16), (J1 17), (J1 18), (J1 19), (J1 20), (J1 21), (J1 22), (J1 23), (J1 24), (J1 25), (J1 26), (J1 27), (J1 28), (J1 29), (J1 30), (J1 31), (J1 32), (J1 33), (J1 34), (J1 35), (J1 36), (J1 37), (J1 38), (J1 39), (J1 40), (J1 41), (J1 42), (J1 43), (J1 44)] ∧ kq = (arcs.length - (i).toNat) ∧ (0 ≤ i) ∧ (i ≤ arcs.length) ∧ (∀ j : Int, 0 ≤ j → j < i → ¬ ((gx arcs j).2 = w ∧ 0 < rdI ds w ∧ rdI ds (gx arcs j).1 = rdI ds w - 1)) ∧ St W (owns []) w' []) (arcs.length - ((0 : Int)).toNat) ⟨(fun k_ : Nat => List.getD [.slice A arcs.length c, .slice D ds.length cd, .int .i64 w, undef, undef, undef, .int .i64 0, .int .i64 0, undef, undef, undef, undef, undef, undef, undef, undef, undef, undef, undef, undef, undef, undef, undef, undef, undef, undef, undef, undef, undef, undef, undef, undef, undef, undef, undef, undef, undef, undef, undef, undef, undef, undef, undef, undef, undef] k_ undef), (0 : Int), congrArg Fr (by kernel_rfl), rfl, by omega, by omega, fun j _ _ => by omega, HS⟩ ?_
  clear HS
  intro kq2 a' W3 hrel
  obtain ⟨J1, i, rfl, hk, i0, i1, hn, HS⟩ := hrel
  refine wp_seq ?_
  refine wp_seq ?_
  refine wp_region_lit ?_
  refine ql (.int .i64 i) (by kernel_rfl) (by kernel_rfl) ?_
  refine ql (.slice A arcs.length c) (by kernel_rfl) (by kernel_rfl) ?_
  refine ql (.int .i64 (arcs.length : Int)) (by kernel_rfl) (by kernel_rfl) ?_
  by_cases hc4 : i < (arcs.length : Int)
  · skip
    refine ql (.bool true) (by kernel_rfl) (R_bool (p := i < (arcs.length : Int)) (by kernel_rfl) (hc4)) ?_
    refine wpList_nil ?_
    refine x_then ?_
    refine wp_cond_true (by kernel_rfl) ?_
    refine wp_skip ?_
    refine x_then ?_
    refine wp_seq ?_
    refine wp_block ?_
    refine wp_seq ?_
    have hf := gx_fine hF i0 (by omega)
    have hlw := hD.lo w w0 w1
    have hlt := lvl hD.ld hD.ze hD.pr hF w0 w1
    refine rg_still HS 29 (by kernel_rfl) (by kernel_rfl) ?_
    intro W5 H_ HK_
    simp only [List.take_succ_cons, List.take_zero, List.drop_succ_cons, List.drop_zero]
    replace HS : St W (owns []) W5 [] := H_
    clear H_
    clear HK_
    refine qs (.slice A arcs.length c) (by kernel_rfl) (by kernel_rfl) ?_
    refine qs (.int .i64 i) (by kernel_rfl) (by kernel_rfl) ?_
    obtain ⟨ad6, rfl⟩ := Rd.isSome_ hr (by rw [cf_len (z := 2) (fun _ => rfl)]; omega)
    refine qs (.pointer (some (ad6.add (i.toNat * 2)))) (by kernel_rfl) (R_indexA (k := .i64) (p := ad6) (n := arcs.length) (c := c) (i := i) (by kernel_rfl) (by kernel_rfl) Try.underlying22 (by kernel_rfl) (by omega) (by omega)) ?_
    refine qs (.pointer (some ((ad6.add (i.toNat * 2)).add 1))) (by kernel_rfl) (by kernel_rfl) ?_
    refine qs (.int .i64 ((gx arcs i).2)) (by kernel_rfl) (R_load (p := (ad6.add (i.toNat * 2)).add 1) (by kernel_rfl) (by kernel_rfl) (by kernel_rfl) (HS.old0 (Rd.elem1 (k := 1) (f := arcC) (fun _ => rfl) hr (gx_eq (by omega) (by omega)) rfl))) ?_
    refine qs (.int .i64 w) (by kernel_rfl) (by kernel_rfl) ?_
    by_cases hc7 : ((gx arcs i).2) = w
    · skip
      refine qs (.bool true) (by kernel_rfl) (R_beq (b := ((gx arcs i).2 == w)) (by kernel_rfl) (beq_t (hc7))) ?_
      refine qs (.bool true) (by kernel_rfl) (by kernel_rfl) ?_
      refine qs (.slice D ds.length cd) (by kernel_rfl) (by kernel_rfl) ?_
      refine qs (.int .i64 w) (by kernel_rfl) (by kernel_rfl) ?_
      obtain ⟨ad8, rfl⟩ := Rd.isSome_ hrd (by rw [ci_len]; omega)
      refine qs (.pointer (some (ad8.add w.toNat))) (by kernel_rfl) (R_indexA1 (k := .i64) (p := ad8) (n := ds.length) (c := cd) (i := w) (by kernel_rfl) (by kernel_rfl) Try.underlying28 (by kernel_rfl) (by omega) (by omega)) ?_
      refine qs (.int .i64 (rdI ds w)) (by kernel_rfl) (R_load (p := ad8.add w.toNat) (by kernel_rfl) (by kernel_rfl) (by kernel_rfl) (HS.old0 (hrd.at_ (ci_rd (by omega) (by omega))))) ?_
      by_cases hc9 : (rdI ds w) > (0 : Int)
      · skip
        refine qs (.bool true) (by kernel_rfl) (R_bool (p := (rdI ds w) > (0 : Int)) (by kernel_rfl) (hc9)) ?_
        refine qs (.bool true) (by kernel_rfl) (by kernel_rfl) ?_
        refine qs (.bool true) (by kernel_rfl) (by kernel_rfl) ?_
        refine qs (.slice (some ad8) ds.length cd) (by kernel_rfl) (by kernel_rfl) ?_
        refine qs (.slice (some ad6) arcs.length c) (by kernel_rfl) (by kernel_rfl) ?_
        refine qs (.int .i64 i) (by kernel_rfl) (by kernel_rfl) ?_
        refine qs (.pointer (some (ad6.add (i.toNat * 2)))) (by kernel_rfl) (R_indexA (k := .i64) (p := ad6) (n := arcs.length) (c := c) (i := i) (by kernel_rfl) (by kernel_rfl) Try.underlying22 (by kernel_rfl) (by omega) (by omega)) ?_
        refine qs (.pointer (some (ad6.add (i.toNat * 2)))) (by kernel_rfl) (by kernel_rfl) ?_
        refine qs (.int .i64 ((gx arcs i).1)) (by kernel_rfl) (R_load (p := ad6.add (i.toNat * 2)) (by kernel_rfl) (by kernel_rfl) (by kernel_rfl) (HS.old0 (Rd.elem0 (f := arcC) (fun _ => rfl) hr (gx_eq (by omega) (by omega)) rfl))) ?_
        refine qs (.pointer (some (ad8.add ((gx arcs i).1).toNat))) (by kernel_rfl) (R_indexA1 (k := .i64) (p := ad8) (n := ds.length) (c := cd) (i := (gx arcs i).1) (by kernel_rfl) (by kernel_rfl) Try.underlying28 (by kernel_rfl) (by omega) (by omega)) ?_
        refine qs (.int .i64 (rdI ds ((gx arcs i).1))) (by kernel_rfl) (R_load (p := ad8.add ((gx arcs i).1).toNat) (by kernel_rfl) (by kernel_rfl) (by kernel_rfl) (HS.old0 (hrd.at_ (ci_rd (by omega) (by omega))))) ?_
        refine qs (.slice (some ad8) ds.length cd) (by kernel_rfl) (by kernel_rfl) ?_
        refine qs (.int .i64 w) (by kernel_rfl) (by kernel_rfl) ?_
        refine qs (.pointer (some (ad8.add w.toNat))) (by kernel_rfl) (R_indexA1 (k := .i64) (p := ad8) (n := ds.length) (c := cd) (i := w) (by kernel_rfl) (by kernel_rfl) Try.underlying28 (by kernel_rfl) (by omega) (by omega)) ?_
        refine qs (.int .i64 (rdI ds w)) (by kernel_rfl) (R_load (p := ad8.add w.toNat) (by kernel_rfl) (by kernel_rfl) (by kernel_rfl) (HS.old0 (hrd.at_ (ci_rd (by omega) (by omega))))) ?_
        refine qs (.int .i64 ((rdI ds w) - 1)) (by kernel_rfl) (R_int (by kernel_rfl) (w64 (by omega))) ?_
        by_cases hc10 : (rdI ds ((gx arcs i).1)) = ((rdI ds w) - 1)
        · skip
          refine qs (.bool true) (by kernel_rfl) (R_beq (b := (rdI ds ((gx arcs i).1) == (rdI ds w) - 1)) (by kernel_rfl) (beq_t (hc10))) ?_
          refine wpStill_nil ?_
          refine ql (.bool true) (by kernel_rfl) (by kernel_rfl) ?_
          refine wpList_nil ?_
          refine x_then ?_
          refine wp_cond_true (by kernel_rfl) ?_
          refine wp_seq ?_
          refine wp_region_lit ?_
          refine ql (.int .i64 i) (by kernel_rfl) (by kernel_rfl) ?_
          refine ql (.int .i64 i) (by kernel_rfl) (by kernel_rfl) ?_
          refine wpList_nil ?_
          refine x_then ?_
          refine wp_ret ?_
          refine x_inbR ?_
          refine x_thenR ?_
          refine x_thenR ?_
          refine x_inbR ?_
          refine x_thenR ?_
          refine ret_ (.int .i64 i) (by kernel_rfl) ?_
          have hre : i = rdI bs w := bk_at hD hK w0 w1 i0 (by omega) hn (by omega) (by omega) (by omega)
          exact ⟨by rw [hre], HS⟩
        · skip
          refine qs (.bool false) (by kernel_rfl) (R_beq (b := (rdI ds ((gx arcs i).1) == (rdI ds w) - 1)) (by kernel_rfl) (beq_f (hc10))) ?_
          refine wpStill_nil ?_
          refine ql (.bool false) (by kernel_rfl) (by kernel_rfl) ?_
          refine wpList_nil ?_
          refine x_then ?_
          refine wp_cond_false (by kernel_rfl) ?_
          refine wp_skip ?_
          refine x_inb ?_
          refine x_then ?_
          refine wp_region_lit ?_
          refine ql (.int .i64 i) (by kernel_rfl) (by kernel_rfl) ?_
          refine ql (.int .i64 (i + 1)) (by kernel_rfl) (R_int (by kernel_rfl) (w64 (by omega))) ?_
          refine ql (.int .i64 (i + 1)) (by kernel_rfl) (by kernel_rfl) ?_
          refine wpList_nil ?_
          have hst : ∀ j : Int, 0 ≤ j → j < i + 1 → ¬ ((gx arcs j).2 = w ∧ 0 < rdI ds w ∧ rdI ds (gx arcs j).1 = rdI ds w - 1) := by intro j j0 j1; by_cases e9 : j = i; (subst e9; rintro ⟨x1, x2, x3⟩; omega); exact hn j j0 (by omega)
          refine x_then ?_
          exact ⟨arcs.length - (i + 1).toNat, by omega, (fun k_ : Nat => List.getD [.slice (some ad6) arcs.length c, .slice (some ad8) ds.length cd, .int .i64 w, undef, undef, undef, (J1 6), .int .i64 (i + 1), .int .i64 i, .slice (some ad6) arcs.length c, .int .i64 (arcs.length : Int), .bool true, .int .i64 i, .int .i64 (i + 1), .slice (some ad6) arcs.length c, .int .i64 i, .pointer (some (ad6.add (i.toNat * 2))), .pointer (some ((ad6.add (i.toNat * 2)).add 1)), .int .i64 ((gx arcs i).2), .int .i64 w, .bool true, .bool true, .slice (some ad8) ds.length cd, .int .i64 w, .pointer (some (ad8.add w.toNat)), .int .i64 (rdI ds w), .bool true, .bool true, .bool true, .slice (some ad8) ds.length cd, .slice (some ad6) arcs.length c, .int .i64 i, .pointer (some (ad6.add (i.toNat * 2))), .pointer (some (ad6.add (i.toNat * 2))), .int .i64 ((gx arcs i).1), .pointer (some (ad8.add ((gx arcs i).1).toNat)), .int .i64 (rdI ds ((gx arcs i).1)), .slice (some ad8) ds.length cd, .int .i64 w, .pointer (some (ad8.add w.toNat)), .int .i64 (rdI ds w), .int .i64 ((rdI ds w) - 1), .bool false, .bool false, (J1 44)] k_ undef), i + 1, congrArg Fr (by kernel_rfl), rfl, by omega, by omega, hst, HS⟩
      · skip
        refine qs (.bool false) (by kernel_rfl) (R_nbool (p := (rdI ds w) > (0 : Int)) (by kernel_rfl) (hc9)) ?_
        refine qs (.bool false) (by kernel_rfl) (by kernel_rfl) ?_
        refine qs (.bool false) (by kernel_rfl) (by kernel_rfl) ?_
        refine qsn (by kernel_rfl) ?_
        refine qsn (by kernel_rfl) ?_
        refine qsn (by kernel_rfl) ?_
        refine qsn (by kernel_rfl) ?_
        refine qsn (by kernel_rfl) ?_
        refine qsn (by kernel_rfl) ?_
        refine qsn (by kernel_rfl) ?_
        refine qsn (by kernel_rfl) ?_
        refine qsn (by kernel_rfl) ?_
        refine qsn (by kernel_rfl) ?_
        refine qsn (by kernel_rfl) ?_
        refine qsn (by kernel_rfl) ?_
        refine qsn (by kernel_rfl) ?_
        refine qsn (by kernel_rfl) ?_
        refine wpStill_nil ?_
        refine ql (.bool false) (by kernel_rfl) (by kernel_rfl) ?_
        refine wpList_nil ?_
        refine x_then ?_
        refine wp_cond_false (by kernel_rfl) ?_
        refine wp_skip ?_
        refine x_inb ?_
        refine x_then ?_
        refine wp_region_lit ?_
        refine ql (.int .i64 i) (by kernel_rfl) (by kernel_rfl) ?_
        refine ql (.int .i64 (i + 1)) (by kernel_rfl) (R_int (by kernel_rfl) (w64 (by omega))) ?_
        refine ql (.int .i64 (i + 1)) (by kernel_rfl) (by kernel_rfl) ?_
        refine wpList_nil ?_
        have hst : ∀ j : Int, 0 ≤ j → j < i + 1 → ¬ ((gx arcs j).2 = w ∧ 0 < rdI ds w ∧ rdI ds (gx arcs j).1 = rdI ds w - 1) := by intro j j0 j1; by_cases e9 : j = i; (subst e9; rintro ⟨x1, x2, x3⟩; omega); exact hn j j0 (by omega)
        refine x_then ?_
        exact ⟨arcs.length - (i + 1).toNat, by omega, (fun k_ : Nat => List.getD [.slice (some ad6) arcs.length c, .slice (some ad8) ds.length cd, .int .i64 w, undef, undef, undef, (J1 6), .int .i64 (i + 1), .int .i64 i, .slice (some ad6) arcs.length c, .int .i64 (arcs.length : Int), .bool true, .int .i64 i, .int .i64 (i + 1), .slice (some ad6) arcs.length c, .int .i64 i, .pointer (some (ad6.add (i.toNat * 2))), .pointer (some ((ad6.add (i.toNat * 2)).add 1)), .int .i64 ((gx arcs i).2), .int .i64 w, .bool true, .bool true, .slice (some ad8) ds.length cd, .int .i64 w, .pointer (some (ad8.add w.toNat)), .int .i64 (rdI ds w), .bool false, .bool false, .bool false, undef, undef, undef, undef, undef, undef, undef, undef, undef, undef, undef, undef, undef, undef, .bool false, (J1 44)] k_ undef), i + 1, congrArg Fr (by kernel_rfl), rfl, by omega, by omega, hst, HS⟩
    · skip
      refine qs (.bool false) (by kernel_rfl) (R_beq (b := ((gx arcs i).2 == w)) (by kernel_rfl) (beq_f (hc7))) ?_
      refine qs (.bool false) (by kernel_rfl) (by kernel_rfl) ?_
      refine qsn (by kernel_rfl) ?_
      refine qsn (by kernel_rfl) ?_
      refine qsn (by kernel_rfl) ?_
      refine qsn (by kernel_rfl) ?_
      refine qsn (by kernel_rfl) ?_
      refine qs (.bool false) (by kernel_rfl) (by kernel_rfl) ?_
      refine qs (.bool false) (by kernel_rfl) (by kernel_rfl) ?_
      refine qsn (by kernel_rfl) ?_
      refine qsn (by kernel_rfl) ?_
      refine qsn (by kernel_rfl) ?_
      refine qsn (by kernel_rfl) ?_
      refine qsn (by kernel_rfl) ?_
      refine qsn (by kernel_rfl) ?_
      refine qsn (by kernel_rfl) ?_
      refine qsn (by kernel_rfl) ?_
      refine qsn (by kernel_rfl) ?_
      refine qsn (by kernel_rfl) ?_
      refine qsn (by kernel_rfl) ?_
      refine qsn (by kernel_rfl) ?_
      refine qsn (by kernel_rfl) ?_
      refine qsn (by kernel_rfl) ?_
      refine wpStill_nil ?_
      refine ql (.bool false) (by kernel_rfl) (by kernel_rfl) ?_
      refine wpList_nil ?_
      refine x_then ?_
      refine wp_cond_false (by kernel_rfl) ?_
      refine wp_skip ?_
      refine x_inb ?_
      refine x_then ?_
      refine wp_region_lit ?_
      refine ql (.int .i64 i) (by kernel_rfl) (by kernel_rfl) ?_
      refine ql (.int .i64 (i + 1)) (by kernel_rfl) (R_int (by kernel_rfl) (w64 (by omega))) ?_
      refine ql (.int .i64 (i + 1)) (by kernel_rfl) (by kernel_rfl) ?_
      refine wpList_nil ?_
      have hst : ∀ j : Int, 0 ≤ j → j < i + 1 → ¬ ((gx arcs j).2 = w ∧ 0 < rdI ds w ∧ rdI ds (gx arcs j).1 = rdI ds w - 1) := by intro j j0 j1; by_cases e9 : j = i; (subst e9; rintro ⟨x1, x2, x3⟩; omega); exact hn j j0 (by omega)
      refine x_then ?_
      exact ⟨arcs.length - (i + 1).toNat, by omega, (fun k_ : Nat => List.getD [.slice (some ad6) arcs.length c, .slice D ds.length cd, .int .i64 w, undef, undef, undef, (J1 6), .int .i64 (i + 1), .int .i64 i, .slice (some ad6) arcs.length c, .int .i64 (arcs.length : Int), .bool true, .int .i64 i, .int .i64 (i + 1), .slice (some ad6) arcs.length c, .int .i64 i, .pointer (some (ad6.add (i.toNat * 2))), .pointer (some ((ad6.add (i.toNat * 2)).add 1)), .int .i64 ((gx arcs i).2), .int .i64 w, .bool false, .bool false, undef, undef, undef, undef, undef, .bool false, .bool false, undef, undef, undef, undef, undef, undef, undef, undef, undef, undef, undef, undef, undef, undef, .bool false, (J1 44)] k_ undef), i + 1, congrArg Fr (by kernel_rfl), rfl, by omega, by omega, hst, HS⟩
  · skip
    refine ql (.bool false) (by kernel_rfl) (R_nbool (p := i < (arcs.length : Int)) (by kernel_rfl) (hc4)) ?_
    refine wpList_nil ?_
    refine x_then ?_
    refine wp_cond_false (by kernel_rfl) ?_
    refine wp_exit ?_
    refine x_thenE ?_
    refine x_thenE ?_
    refine x_hit ?_
    refine x_then ?_
    refine wp_seq ?_
    refine wp_region_lit ?_
    refine ql (.int .i64 (-1)) (by kernel_rfl) (by kernel_rfl) ?_
    refine wpList_nil ?_
    refine x_then ?_
    refine wp_ret ?_
    refine ret_ (.int .i64 (-1)) (by kernel_rfl) ?_
    have hre := bk_no hK w0 w1 (i := i) (by omega) hn
    exact ⟨by rw [hre], HS⟩

end Go.Proofs.Ythfpdpjccnnlhaa.GBfsTells
