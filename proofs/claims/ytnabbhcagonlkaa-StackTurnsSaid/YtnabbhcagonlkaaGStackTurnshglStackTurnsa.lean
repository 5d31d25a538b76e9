/- Written for this claim by gp.py, a program of this session's, over the kit's print. Lean checks it. -/
import Derived.Test.YtnabbhcagonlkaaGStackTurnsx0
import Derived.Test.YtnabbhcagonlkaaGStackTurnshx
import Derived.Test.YtnabbhcagonlkaaGStackTurnshhp1
import Derived.Test.YtnabbhcagonlkaaGStackTurnshhp2
import Derived.Test.YtnabbhcagonlkaaGStackTurnshhp4
import Derived.Test.YtnabbhcagonlkaaGStackTurnshw1a
import Derived.Test.YtnabbhcagonlkaaGStackTurnshw3a
import Derived.WalkKit
import Derived.StillTailTactics
import Derived.Deep.LoopGhost
import Derived.KernelRfl
import Derived.Deep.OwnRows
import Derived.Laws.OwnMore
import Derived.Laws.MakeOwn
import Derived.Maps.AppendAt
import Derived.OrdersHeld
namespace Go.Proofs.Ytnabbhcagonlkaa.GStackTurns
open Go.RowKit Go.Proofs.YtnabbhcagonlkaaW.PrintWords Go.Proofs.YtnabbhcagonlkaaW.PrintLast Go.Proofs.YtnabbhcagonlkaaW.PrintMore
attribute [local go_sem] max2_int min2_int max_two min_two max_three min_three max_four min_four   -- for this text's walks alone
set_option linter.unusedVariables false
set_option linter.unusedSimpArgs false

--import Derived.WalkKit
--import Derived.StillTailTactics
--import Derived.Deep.LoopGhost
--import Derived.KernelRfl
--import Derived.Deep.OwnRows
--import Derived.Laws.OwnMore
--import Derived.Laws.MakeOwn
--import Derived.Maps.AppendAt
--import Derived.OrdersHeld
attribute [local irreducible] wpStill wpList Code.wp TA

theorem Scut_step {xs q q2 os : List ByteArray} (hq : q = xs.take q.length) (h0 : 0 < q.length) (hq2 : q2 = q.take (q.length - 1)) (ho : os = (xs.drop q.length).reverse) : q2.length = q.length - 1 ∧ q2 = xs.take q2.length ∧ os ++ [rdS q ((q.length : Int) - 1)] = (xs.drop q2.length).reverse := by
  have h1 : q.length ≤ xs.length := by have := congrArg List.length hq; rw [List.length_take] at this; omega
  have h2 : q2.length = q.length - 1 := by rw [hq2, List.length_take]; omega
  refine ⟨h2, ?_, ?_⟩
  · rw [h2, hq2]
    have : q.take (q.length - 1) = (xs.take q.length).take (q.length - 1) := by rw [← hq]
    rw [this, List.take_take, Nat.min_eq_left (by omega)]
  · have h3 : q.length - 1 < xs.length := by omega
    have e : rdS q ((q.length : Int) - 1) = xs[q.length - 1] := by
      have e1 : ((q.length : Int) - 1).toNat = q.length - 1 := by omega
      have e2 : q[q.length - 1]? = xs[q.length - 1]? := by
        have : q[q.length - 1]? = (xs.take q.length)[q.length - 1]? := by rw [← hq]
        rw [this, List.getElem?_take_of_lt (by omega)]
      unfold rdS
      rw [e1, List.getD_eq_getElem?_getD, e2, List.getElem?_eq_getElem h3]
      rfl
    rw [h2, List.drop_eq_getElem_cons h3, show q.length - 1 + 1 = q.length by omega, List.reverse_cons, ← ho, e]

set_option maxRecDepth 100000 in
set_option maxHeartbeats 1000000 in
theorem Sslen (g : Nat) (A : Option Addr) (c : Nat) (xs : List ByteArray) (W : World) (hc : W.cell? ⟨g, 0, none⟩ = some (.slice A xs.length c)) : Calls Try.prog 69 #[.pointer (some ⟨g, 0, none⟩)] W fun e W' => e = .returned (.int .i64 (xs.length : Int)) ∧ St W (owns []) W' [] := by
  have HS : St W (owns []) W [] := St.start W _
  refine calls_enter [.pointer (some ⟨g, 0, none⟩), undef, undef, undef, undef, undef, undef, undef, undef, undef] Try.func69 rfl (by kernel_rfl) ?_
  refine wp_seq ?_
  refine wp_region_lit ?_
  refine ql (.int .i64 0) (by kernel_rfl) (by kernel_rfl) ?_
  refine wpList_nil ?_
  refine x_then ?_
  refine wp_seq ?_
  refine wp_seq ?_
  refine wp_region_lit ?_
  refine ql (.pointer (some ⟨g, 0, none⟩)) (by kernel_rfl) (by kernel_rfl) ?_
  refine ql (.bool false) (by kernel_rfl) (by kernel_rfl) ?_
  refine wpList_nil ?_
  refine x_then ?_
  refine wp_cond_false (by kernel_rfl) ?_
  refine wp_skip ?_
  refine x_then ?_
  refine wp_seq ?_
  refine wp_region_lit ?_
  refine ql (.pointer (some ⟨g, 0, none⟩)) (by kernel_rfl) (by kernel_rfl) ?_
  refine ql (.pointer (some ⟨g, 0, none⟩)) (by kernel_rfl) (by kernel_rfl) ?_
  refine ql (.pointer (some ⟨g, 0, none⟩)) (by kernel_rfl) (by kernel_rfl) ?_
  refine ql (.slice A xs.length c) (by kernel_rfl) (R_load (p := ⟨g, 0, none⟩) (by kernel_rfl) (by kernel_rfl) (by kernel_rfl) (HS.old0 hc)) ?_
  refine ql (.int .i64 (xs.length : Int)) (by kernel_rfl) (by kernel_rfl) ?_
  refine ql (.int .i64 (xs.length : Int)) (by kernel_rfl) (by kernel_rfl) ?_
  refine wpList_nil ?_
  refine x_then ?_
  refine wp_ret ?_
  refine ret_ (.int .i64 (xs.length : Int)) (by kernel_rfl) ?_
  exact ⟨rfl, HS⟩

set_option maxRecDepth 100000 in
set_option maxHeartbeats 1000000 in
theorem Stop_nil (g : Nat) (A : Option Addr) (c : Nat) (xs : List ByteArray) (W : World) (hc : W.cell? ⟨g, 0, none⟩ = some (.slice A xs.length c)) (hr : Rd W A (cz xs)) (hn : xs.length = 0) (hl : xs.length ≤ 1099511627776) : Calls Try.prog 87 #[.pointer (some ⟨g, 0, none⟩)] W fun e W' => e = .returned (.tuple #[.string ByteArray.empty, .bool false]) ∧ St W (owns []) W' [] := by
  have HS : St W (owns []) W [] := St.start W _
  refine calls_enter [.pointer (some ⟨g, 0, none⟩), undef, undef, undef, undef, undef, undef, undef, undef, undef, undef, undef, undef, undef, undef, undef, undef, undef, undef, undef, undef] Try.func87 rfl (by kernel_rfl) ?_
  refine wp_seq ?_
  refine wp_region_lit ?_
  refine ql (.string (⟨#[]⟩)) (by kernel_rfl) (by kernel_rfl) ?_
  refine ql (.bool false) (by kernel_rfl) (by kernel_rfl) ?_
  refine wpList_nil ?_
  refine x_then ?_
  refine wp_seq ?_
  refine wp_seq ?_
  refine wp_region_lit ?_
  refine ql (.pointer (some ⟨g, 0, none⟩)) (by kernel_rfl) (by kernel_rfl) ?_
  refine qc (f := 69) (args := #[.pointer (some ⟨g, 0, none⟩)]) (by kernel_rfl) (R_call #[.pointer (some ⟨g, 0, none⟩)] Try.func69 (by kernel_rfl) (by kernel_rfl) (by kernel_rfl)) ?_
  refine (Sslen _ _ _ xs _ (HS.old0 hc)).mono ?_
  rintro e W1 ⟨rfl, H_⟩
  refine ⟨_, rfl, ?_⟩
  replace HS : St W (owns []) W1 [] := HS.join (F := []) (G := []) H_
  clear H_
  refine ql (.bool true) (by kernel_rfl) (R_beq (b := ((xs.length : Int) == (0 : Int))) (by kernel_rfl) (beq_t (by omega))) ?_
  refine wpList_nil ?_
  refine x_then ?_
  refine wp_cond_true (by kernel_rfl) ?_
  refine wp_seq ?_
  refine wp_region_lit ?_
  refine ql (.string (⟨#[]⟩)) (by kernel_rfl) (by kernel_rfl) ?_
  refine wpList_nil ?_
  refine x_then ?_
  refine wp_seq ?_
  refine wp_region_lit ?_
  refine ql (.string (⟨#[]⟩)) (by kernel_rfl) (by kernel_rfl) ?_
  refine ql (.string (⟨#[]⟩)) (by kernel_rfl) (by kernel_rfl) ?_
  refine ql (.bool false) (by kernel_rfl) (by kernel_rfl) ?_
  refine wpList_nil ?_
  refine x_then ?_
  refine wp_ret ?_
  refine x_thenR ?_
  refine ret_ (.tuple #[.string (⟨#[]⟩), .bool false]) (by kernel_rfl) ?_
  exact ⟨rfl, HS⟩

set_option maxRecDepth 100000 in
set_option maxHeartbeats 1000000 in
theorem Stop_some (g : Nat) (A : Option Addr) (c : Nat) (xs : List ByteArray) (W : World) (hc : W.cell? ⟨g, 0, none⟩ = some (.slice A xs.length c)) (hr : Rd W A (cz xs)) (hn : 0 < xs.length) (hl : xs.length ≤ 1099511627776) : Calls Try.prog 87 #[.pointer (some ⟨g, 0, none⟩)] W fun e W' => e = .returned (.tuple #[.string (rdS xs ((xs.length : Int) - 1)), .bool true]) ∧ St W (owns []) W' [] := by
  have HS : St W (owns []) W [] := St.start W _
  refine calls_enter [.pointer (some ⟨g, 0, none⟩), undef, undef, undef, undef, undef, undef, undef, undef, undef, undef, undef, undef, undef, undef, undef, undef, undef, undef, undef, undef] Try.func87 rfl (by kernel_rfl) ?_
  refine wp_seq ?_
  refine wp_region_lit ?_
  refine ql (.string (⟨#[]⟩)) (by kernel_rfl) (by kernel_rfl) ?_
  refine ql (.bool false) (by kernel_rfl) (by kernel_rfl) ?_
  refine wpList_nil ?_
  refine x_then ?_
  refine wp_seq ?_
  refine wp_seq ?_
  refine wp_region_lit ?_
  refine ql (.pointer (some ⟨g, 0, none⟩)) (by kernel_rfl) (by kernel_rfl) ?_
  refine qc (f := 69) (args := #[.pointer (some ⟨g, 0, none⟩)]) (by kernel_rfl) (R_call #[.pointer (some ⟨g, 0, none⟩)] Try.func69 (by kernel_rfl) (by kernel_rfl) (by kernel_rfl)) ?_
  refine (Sslen _ _ _ xs _ (HS.old0 hc)).mono ?_
  rintro e W1 ⟨rfl, H_⟩
  refine ⟨_, rfl, ?_⟩
  replace HS : St W (owns []) W1 [] := HS.join (F := []) (G := []) H_
  clear H_
  refine ql (.bool false) (by kernel_rfl) (R_beq (b := ((xs.length : Int) == (0 : Int))) (by kernel_rfl) (beq_f (by omega))) ?_
  refine wpList_nil ?_
  refine x_then ?_
  refine wp_cond_false (by kernel_rfl) ?_
  refine wp_skip ?_
  refine x_then ?_
  refine wp_seq ?_
  refine rg_still HS 13 (by kernel_rfl) (by kernel_rfl) ?_
  intro W2 H_ HK_
  simp only [List.take_succ_cons, List.take_zero, List.drop_succ_cons, List.drop_zero]
  replace HS : St W (owns []) W2 [] := H_
  clear H_
  clear HK_
  refine qs (.pointer (some ⟨g, 0, none⟩)) (by kernel_rfl) (by kernel_rfl) ?_
  refine qs (.pointer (some ⟨g, 0, none⟩)) (by kernel_rfl) (by kernel_rfl) ?_
  refine qs (.pointer (some ⟨g, 0, none⟩)) (by kernel_rfl) (by kernel_rfl) ?_
  refine qs (.slice A xs.length c) (by kernel_rfl) (R_load (p := ⟨g, 0, none⟩) (by kernel_rfl) (by kernel_rfl) (by kernel_rfl) (HS.old0 hc)) ?_
  refine qs (.pointer (some ⟨g, 0, none⟩)) (by kernel_rfl) (by kernel_rfl) ?_
  refine qs (.pointer (some ⟨g, 0, none⟩)) (by kernel_rfl) (by kernel_rfl) ?_
  refine qs (.pointer (some ⟨g, 0, none⟩)) (by kernel_rfl) (by kernel_rfl) ?_
  refine qs (.slice A xs.length c) (by kernel_rfl) (R_load (p := ⟨g, 0, none⟩) (by kernel_rfl) (by kernel_rfl) (by kernel_rfl) (HS.old0 hc)) ?_
  refine qs (.int .i64 (xs.length : Int)) (by kernel_rfl) (by kernel_rfl) ?_
  refine qs (.int .i64 ((xs.length : Int) - 1)) (by kernel_rfl) (R_int (by kernel_rfl) (w64 (by omega))) ?_
  obtain ⟨ad3, rfl⟩ := Rd.isSome_ hr (by rw [cz_len]; omega)
  refine qs (.pointer (some (ad3.add ((xs.length : Int) - 1).toNat))) (by kernel_rfl) (R_indexA1 (k := .i64) (p := ad3) (n := xs.length) (c := c) (i := (xs.length : Int) - 1) (by kernel_rfl) (by kernel_rfl) Try.underlying93 (by kernel_rfl) (by omega) (by omega)) ?_
  refine qs (.string (rdS xs ((xs.length : Int) - 1))) (by kernel_rfl) (R_load (p := ad3.add ((xs.length : Int) - 1).toNat) (by kernel_rfl) (by kernel_rfl) (by kernel_rfl) (HS.old0 (hr.at_ (cz_rd (i := (xs.length : Int) - 1) (by omega) (by omega))))) ?_
  refine qs (.string (rdS xs ((xs.length : Int) - 1))) (by kernel_rfl) (by kernel_rfl) ?_
  refine wpStill_nil ?_
  refine ql (.bool true) (by kernel_rfl) (by kernel_rfl) ?_
  refine wpList_nil ?_
  refine x_then ?_
  refine wp_ret ?_
  refine ret_ (.tuple #[.string (rdS xs ((xs.length : Int) - 1)), .bool true]) (by kernel_rfl) ?_
  exact ⟨rfl, HS⟩

theorem Stake_set {xs : List ByteArray} {i n : Nat} {v : ByteArray} (h : n ≤ i) : (xs.set i v).take n = xs.take n := by
  rw [List.take_set, List.set_eq_of_length_le]
  rw [List.length_take]; omega

set_option maxRecDepth 100000 in
set_option maxHeartbeats 1000000 in
theorem Spop_nil (g : Nat) (A : Option Addr) (c : Nat) (xs : List ByteArray) (W : World) (M : Nat → Prop) (HS : St W M W [blk g [.slice A xs.length c] 95, row A xs.length c (cz xs) 9 1]) (hn : xs.length = 0) (hl : xs.length ≤ 1099511627776) : Calls Try.prog 67 #[.pointer (some ⟨g, 0, none⟩)] W fun e W' => e = .returned (.tuple #[.string ByteArray.empty, .bool false]) ∧ St W M W' [blk g [.slice A xs.length c] 95, row A xs.length c (cz xs) 9 1] := by
  refine calls_enter [.pointer (some ⟨g, 0, none⟩), undef, undef, undef, undef, undef, undef, undef, undef, undef, undef, undef, undef, undef, undef, undef, undef, undef, undef, undef, undef, undef, undef, undef, undef, undef, undef, undef, undef, undef, undef, undef, undef, undef, undef, undef, undef, undef, undef, undef, undef] Try.func67 rfl (by kernel_rfl) ?_
  refine wp_seq ?_
  refine wp_region_lit ?_
  refine ql (.string (⟨#[]⟩)) (by kernel_rfl) (by kernel_rfl) ?_
  refine ql (.bool false) (by kernel_rfl) (by kernel_rfl) ?_
  refine wpList_nil ?_
  refine x_then ?_
  refine wp_seq ?_
  refine wp_region_lit ?_
  refine ql (.pointer (some ⟨g, 0, none⟩)) (by kernel_rfl) (by kernel_rfl) ?_
  refine qc (f := 87) (args := #[.pointer (some ⟨g, 0, none⟩)]) (by kernel_rfl) (R_call #[.pointer (some ⟨g, 0, none⟩)] Try.func87 (by kernel_rfl) (by kernel_rfl) (by kernel_rfl)) ?_
  refine (Stop_nil _ _ _ _ _ (HS.cell (i := 0) (j := 0) rfl rfl) (Rd.row HS (i := 1) rfl) (by omega) (by omega)).mono ?_
  rintro e W1 ⟨rfl, H_⟩
  refine ⟨_, rfl, ?_⟩
  replace HS : St W M W1 [blk g [.slice A xs.length c] 95, row A xs.length c (cz xs) 9 1] := HS.join (F := []) (G := []) H_
  clear H_
  refine ql (.tuple #[.string ByteArray.empty, .bool false]) (by kernel_rfl) (by kernel_rfl) ?_
  refine ql (.string ByteArray.empty) (by kernel_rfl) (by kernel_rfl) ?_
  refine ql (.bool false) (by kernel_rfl) (by kernel_rfl) ?_
  refine ql (.string ByteArray.empty) (by kernel_rfl) (by kernel_rfl) ?_
  refine ql (.bool false) (by kernel_rfl) (by kernel_rfl) ?_
  refine wpList_nil ?_
  refine x_then ?_
  refine wp_seq ?_
  refine wp_seq ?_
  refine wp_region_lit ?_
  refine ql (.bool false) (by kernel_rfl) (by kernel_rfl) ?_
  refine wpList_nil ?_
  refine x_then ?_
  refine wp_cond_false (by kernel_rfl) ?_
  refine wp_skip ?_
  refine x_then ?_
  refine wp_seq ?_
  refine wp_region_lit ?_
  refine ql (.string ByteArray.empty) (by kernel_rfl) (by kernel_rfl) ?_
  refine ql (.bool false) (by kernel_rfl) (by kernel_rfl) ?_
  refine ql (.string ByteArray.empty) (by kernel_rfl) (by kernel_rfl) ?_
  refine ql (.bool false) (by kernel_rfl) (by kernel_rfl) ?_
  refine wpList_nil ?_
  refine x_then ?_
  refine wp_ret ?_
  refine ret_ (.tuple #[.string ByteArray.empty, .bool false]) (by kernel_rfl) ?_
  exact ⟨rfl, HS⟩

set_option maxRecDepth 100000 in
set_option maxHeartbeats 1000000 in
theorem Spop_some (g : Nat) (A : Option Addr) (c : Nat) (xs : List ByteArray) (W : World) (M : Nat → Prop) (HS : St W M W [blk g [.slice A xs.length c] 95, row A xs.length c (cz xs) 9 1]) (hn : 0 < xs.length) (hl : xs.length ≤ 1099511627776) (hlc : xs.length ≤ c) (q : List ByteArray) (hq : q = xs.take (xs.length - 1)) : Calls Try.prog 67 #[.pointer (some ⟨g, 0, none⟩)] W fun e W' => e = .returned (.tuple #[.string (rdS xs ((xs.length : Int) - 1)), .bool true]) ∧ St W M W' [blk g [.slice A q.length c] 95, row A q.length c (cz q) 9 1] := by
  have hqln : q.length = xs.length - 1 := by rw [hq, List.length_take]; omega
  have hcc : xs.length ≤ c := hlc
  refine calls_enter [.pointer (some ⟨g, 0, none⟩), undef, undef, undef, undef, undef, undef, undef, undef, undef, undef, undef, undef, undef, undef, undef, undef, undef, undef, undef, undef, undef, undef, undef, undef, undef, undef, undef, undef, undef, undef, undef, undef, undef, undef, undef, undef, undef, undef, undef, undef] Try.func67 rfl (by kernel_rfl) ?_
  refine wp_seq ?_
  refine wp_region_lit ?_
  refine ql (.string (⟨#[]⟩)) (by kernel_rfl) (by kernel_rfl) ?_
  refine ql (.bool false) (by kernel_rfl) (by kernel_rfl) ?_
  refine wpList_nil ?_
  refine x_then ?_
  refine wp_seq ?_
  refine wp_region_lit ?_
  refine ql (.pointer (some ⟨g, 0, none⟩)) (by kernel_rfl) (by kernel_rfl) ?_
  refine qc (f := 87) (args := #[.pointer (some ⟨g, 0, none⟩)]) (by kernel_rfl) (R_call #[.pointer (some ⟨g, 0, none⟩)] Try.func87 (by kernel_rfl) (by kernel_rfl) (by kernel_rfl)) ?_
  refine (Stop_some _ _ _ _ _ (HS.cell (i := 0) (j := 0) rfl rfl) (Rd.row HS (i := 1) rfl) (by omega) (by omega)).mono ?_
  rintro e W1 ⟨rfl, H_⟩
  refine ⟨_, rfl, ?_⟩
  replace HS : St W M W1 [blk g [.slice A xs.length c] 95, row A xs.length c (cz xs) 9 1] := HS.join (F := []) (G := []) H_
  clear H_
  refine ql (.tuple #[.string (rdS xs ((xs.length : Int) - 1)), .bool true]) (by kernel_rfl) (by kernel_rfl) ?_
  refine ql (.string (rdS xs ((xs.length : Int) - 1))) (by kernel_rfl) (by kernel_rfl) ?_
  refine ql (.bool true) (by kernel_rfl) (by kernel_rfl) ?_
  refine ql (.string (rdS xs ((xs.length : Int) - 1))) (by kernel_rfl) (by kernel_rfl) ?_
  refine ql (.bool true) (by kernel_rfl) (by kernel_rfl) ?_
  refine wpList_nil ?_
  refine x_then ?_
  refine wp_seq ?_
  refine wp_seq ?_
  refine wp_region_lit ?_
  refine ql (.bool true) (by kernel_rfl) (by kernel_rfl) ?_
  refine wpList_nil ?_
  refine x_then ?_
  refine wp_cond_true (by kernel_rfl) ?_
  refine wp_seq ?_
  refine wp_region_lit ?_
  refine ql (.string (⟨#[]⟩)) (by kernel_rfl) (by kernel_rfl) ?_
  refine wpList_nil ?_
  refine x_then ?_
  refine wp_seq ?_
  refine rg_still HS 12 (by kernel_rfl) (by kernel_rfl) ?_
  intro W2 H_ HK_
  simp only [List.take_succ_cons, List.take_zero, List.drop_succ_cons, List.drop_zero]
  replace HS : St W M W2 [blk g [.slice A xs.length c] 95, row A xs.length c (cz xs) 9 1] := H_
  clear H_
  clear HK_
  refine qs (.pointer (some ⟨g, 0, none⟩)) (by kernel_rfl) (by kernel_rfl) ?_
  refine qs (.pointer (some ⟨g, 0, none⟩)) (by kernel_rfl) (by kernel_rfl) ?_
  refine qs (.pointer (some ⟨g, 0, none⟩)) (by kernel_rfl) (by kernel_rfl) ?_
  refine qs (.slice A xs.length c) (by kernel_rfl) (R_load (p := ⟨g, 0, none⟩) (by kernel_rfl) (by kernel_rfl) (by kernel_rfl) (HS.cell (i := 0) (j := 0) rfl rfl)) ?_
  refine qs (.pointer (some ⟨g, 0, none⟩)) (by kernel_rfl) (by kernel_rfl) ?_
  refine qs (.pointer (some ⟨g, 0, none⟩)) (by kernel_rfl) (by kernel_rfl) ?_
  refine qs (.pointer (some ⟨g, 0, none⟩)) (by kernel_rfl) (by kernel_rfl) ?_
  refine qs (.slice A xs.length c) (by kernel_rfl) (R_load (p := ⟨g, 0, none⟩) (by kernel_rfl) (by kernel_rfl) (by kernel_rfl) (HS.cell (i := 0) (j := 0) rfl rfl)) ?_
  refine qs (.int .i64 (xs.length : Int)) (by kernel_rfl) (by kernel_rfl) ?_
  refine qs (.int .i64 ((xs.length : Int) - 1)) (by kernel_rfl) (R_int (by kernel_rfl) (w64 (by omega))) ?_
  refine qs (.string (⟨#[]⟩)) (by kernel_rfl) (by kernel_rfl) ?_
  obtain ⟨g3, rfl⟩ := St.rsome HS (i := 1) rfl (by omega)
  refine qs (.pointer (some ⟨g3, ((xs.length : Int) - 1).toNat, none⟩)) (by kernel_rfl) (R_index1 (k := .i64) (g := g3) (n := xs.length) (c := c) (i := (xs.length : Int) - 1) (by kernel_rfl) (by kernel_rfl) Try.underlying93 (by kernel_rfl) (by omega) (by omega)) ?_
  refine wpStill_nil ?_
  refine kr (v := .string (⟨#[]⟩)) HS 1 rfl (((xs.length : Int) - 1).toNat) [.string (⟨#[]⟩)] (by kernel_rfl) (by kernel_rfl) (by kernel_rfl) (by kernel_rfl) (by kernel_rfl) (one_ (by kernel_rfl)) (by rw [cz_len]; first | omega | (simp only [List.length_singleton]; omega)) rfl ?_
  intro W4 H_
  obtain ⟨xs5, xs5_⟩ : ∃ z_ : List ByteArray, z_ = (xs).set ((xs.length : Int) - 1).toNat (⟨#[]⟩) := ⟨_, rfl⟩
  replace HS : St W M W4 [blk g [.slice (some ⟨g3, 0, none⟩) xs.length c] 95, row (some ⟨g3, 0, none⟩) xs.length c (cz xs5) 9 1] := H_.cast_ (by rw [xs5_, ← cz_set]; rfl)
  clear H_
  have xs5l : xs5.length = xs.length := by rw [xs5_, List.length_set]; first | done | omega
  refine wpList_nil ?_
  refine x_then ?_
  refine rg_still HS 14 (by kernel_rfl) (by kernel_rfl) ?_
  intro W6 H_ HK_
  simp only [List.take_succ_cons, List.take_zero, List.drop_succ_cons, List.drop_zero]
  replace HS : St W M W6 [blk g [.slice (some ⟨g3, 0, none⟩) xs.length c] 95, row (some ⟨g3, 0, none⟩) xs.length c (cz xs5) 9 1] := H_
  clear H_
  clear HK_
  refine qs (.pointer (some ⟨g, 0, none⟩)) (by kernel_rfl) (by kernel_rfl) ?_
  refine qs (.pointer (some ⟨g, 0, none⟩)) (by kernel_rfl) (by kernel_rfl) ?_
  refine qs (.pointer (some ⟨g, 0, none⟩)) (by kernel_rfl) (by kernel_rfl) ?_
  refine qs (.pointer (some ⟨g, 0, none⟩)) (by kernel_rfl) (by kernel_rfl) ?_
  refine qs (.slice (some ⟨g3, 0, none⟩) xs.length c) (by kernel_rfl) (R_load (p := ⟨g, 0, none⟩) (by kernel_rfl) (by kernel_rfl) (by kernel_rfl) (HS.cell (i := 0) (j := 0) rfl rfl)) ?_
  refine qs (.pointer (some ⟨g, 0, none⟩)) (by kernel_rfl) (by kernel_rfl) ?_
  refine qs (.pointer (some ⟨g, 0, none⟩)) (by kernel_rfl) (by kernel_rfl) ?_
  refine qs (.pointer (some ⟨g, 0, none⟩)) (by kernel_rfl) (by kernel_rfl) ?_
  refine qs (.slice (some ⟨g3, 0, none⟩) xs.length c) (by kernel_rfl) (R_load (p := ⟨g, 0, none⟩) (by kernel_rfl) (by kernel_rfl) (by kernel_rfl) (HS.cell (i := 0) (j := 0) rfl rfl)) ?_
  refine qs (.int .i64 (xs.length : Int)) (by kernel_rfl) (by kernel_rfl) ?_
  refine qs (.int .i64 ((xs.length : Int) - 1)) (by kernel_rfl) (R_int (by kernel_rfl) (w64 (by omega))) ?_
  refine qs (.slice (some ⟨g3, 0, none⟩) q.length c) (by kernel_rfl) (R_sliceHn (z := 1) (e := 9) (k := .i64) (A := some ⟨g3, 0, none⟩) (n := xs.length) (c := c) (i := (xs.length : Int) - 1) q.length (by omega) (by kernel_rfl) (by kernel_rfl) Try.underlying93 (by kernel_rfl) (by omega) (by omega)) ?_
  refine qs (.pointer (some ⟨g, 0, none⟩)) (by kernel_rfl) (by kernel_rfl) ?_
  refine qs (.pointer (some ⟨g, 0, none⟩)) (by kernel_rfl) (by kernel_rfl) ?_
  refine wpStill_nil ?_
  refine ks (v := .slice (some ⟨g3, 0, none⟩) q.length c) HS 0 rfl (0) [.slice (some ⟨g3, 0, none⟩) q.length c] (by kernel_rfl) (by kernel_rfl) (by kernel_rfl) (by kernel_rfl) (by kernel_rfl) (one_ (by kernel_rfl)) (Nat.le_of_ble_eq_true rfl) rfl ?_
  intro W7 H_
  replace HS : St W M W7 [blk g [.slice (some ⟨g3, 0, none⟩) q.length c] 95, row (some ⟨g3, 0, none⟩) xs.length c (cz xs5) 9 1] := H_
  clear H_
  refine wpList_nil ?_
  refine x_then ?_
  refine wp_seq ?_
  refine wp_region_lit ?_
  refine ql (.string (rdS xs ((xs.length : Int) - 1))) (by kernel_rfl) (by kernel_rfl) ?_
  refine ql (.bool true) (by kernel_rfl) (by kernel_rfl) ?_
  refine ql (.string (rdS xs ((xs.length : Int) - 1))) (by kernel_rfl) (by kernel_rfl) ?_
  refine ql (.bool true) (by kernel_rfl) (by kernel_rfl) ?_
  refine wpList_nil ?_
  refine x_then ?_
  refine wp_ret ?_
  refine ret_ (.tuple #[.string (rdS xs ((xs.length : Int) - 1)), .bool true]) (by kernel_rfl) ?_
  obtain ⟨xs8, xs8_⟩ : ∃ z_ : List ByteArray, z_ = (xs5).take (q.length) := ⟨_, rfl⟩
  have xs8l : xs8.length = q.length := by rw [xs8_, List.length_take]; omega
  replace HS : St W M W7 [blk g [.slice (some ⟨g3, 0, none⟩) q.length c] 95, row (some ⟨g3, 0, none⟩) xs8.length c (cz xs8) 9 1] := HS.cutRow (i := 1) rfl xs8.length _ (by omega) (by rw [xs8l, cz_take, xs8_])
  obtain rfl : q = xs8 := by rw [xs8_, xs5_, Stake_set (by omega), hqln]; exact hq
  exact ⟨rfl, HS⟩

set_option maxRecDepth 100000 in
set_option maxHeartbeats 1000000 in
theorem Spush (g : Nat) (A B : Option Addr) (c d : Nat) (xs ys : List ByteArray) (W : World) (M : Nat → Prop) (HS : St W M W [blk g [.slice A xs.length c] 95, row A xs.length c (cz xs) 9 1]) (hrd : RdF M W B (cz ys)) (hl : xs.length ≤ 1099511627776) (hm : ys.length ≤ 1099511627776) : Calls Try.prog 64 #[.pointer (some ⟨g, 0, none⟩), .slice B ys.length d] W fun e W' => ∃ A' c', e = .returned (.tuple #[]) ∧ St W M W' [blk g [.slice A' ((xs ++ ys).length) c'] 95, row A' ((xs ++ ys).length) c' (cz (xs ++ ys)) 9 1] := by
  refine calls_enter [.pointer (some ⟨g, 0, none⟩), .slice B ys.length d, undef, undef, undef, undef, undef, undef, undef, undef, undef, undef, undef, undef, undef] Try.func64 rfl (by kernel_rfl) ?_
  refine wp_seq ?_
  refine wp_region_lit ?_
  refine ql (.pointer (some ⟨g, 0, none⟩)) (by kernel_rfl) (by kernel_rfl) ?_
  refine ql (.bool true) (by kernel_rfl) (by kernel_rfl) ?_
  refine wpList_nil ?_
  refine x_then ?_
  refine wp_cond_true (by kernel_rfl) ?_
  refine wp_region_lit ?_
  refine ql (.pointer (some ⟨g, 0, none⟩)) (by kernel_rfl) (by kernel_rfl) ?_
  refine ql (.pointer (some ⟨g, 0, none⟩)) (by kernel_rfl) (by kernel_rfl) ?_
  refine ql (.pointer (some ⟨g, 0, none⟩)) (by kernel_rfl) (by kernel_rfl) ?_
  refine ql (.pointer (some ⟨g, 0, none⟩)) (by kernel_rfl) (by kernel_rfl) ?_
  refine ql (.slice A xs.length c) (by kernel_rfl) (R_load (p := ⟨g, 0, none⟩) (by kernel_rfl) (by kernel_rfl) (by kernel_rfl) (HS.cell (i := 0) (j := 0) rfl rfl)) ?_
  refine ql (.slice B ys.length d) (by kernel_rfl) (by kernel_rfl) ?_
  obtain ⟨xs4, xs4_⟩ : ∃ z_ : List ByteArray, z_ = xs ++ ys := ⟨_, rfl⟩
  have xs4l : xs4.length = xs.length + ys.length := by rw [xs4_, List.length_append] <;> (try simp only [List.length_cons, List.length_nil]) <;> omega
  refine ka1 HS 1 rfl (Src.of_rd' (n := ys.length) (c := d) (z := 1) (hrd.old0 HS) (by rw [cz_len]; omega) (by decide) cz_one) [.string ByteArray.empty] 16 xs4.length (cz xs4) (by omega) (by rw [xs4_, cz_app]) (by kernel_rfl) (by kernel_rfl) (by kernel_rfl) Try.underlying93 (by kernel_rfl) (by kernel_rfl) (by kernel_rfl) (by kernel_rfl) (by decide) (by omega) (by omega) ?_
  intro A1 c2 W3 H_
  replace HS : St W M W3 [blk g [.slice A xs.length c] 95, row A1 xs4.length c2 (cz xs4) 9 1] := H_
  clear H_
  refine ql (.pointer (some ⟨g, 0, none⟩)) (by kernel_rfl) (by kernel_rfl) ?_
  refine ql (.pointer (some ⟨g, 0, none⟩)) (by kernel_rfl) (by kernel_rfl) ?_
  refine ks (v := .slice A1 xs4.length c2) HS 0 rfl (0) [.slice A1 xs4.length c2] (by kernel_rfl) (by kernel_rfl) (by kernel_rfl) (by kernel_rfl) (by kernel_rfl) (one_ (by kernel_rfl)) (Nat.le_of_ble_eq_true rfl) rfl ?_
  intro W5 H_
  replace HS : St W M W5 [blk g [.slice A1 xs4.length c2] 95, row A1 xs4.length c2 (cz xs4) 9 1] := H_
  clear H_
  refine wpList_nil ?_
  refine end_ (.tuple #[]) (by kernel_rfl) ?_
  subst xs4_
  exact ⟨_, _, rfl, HS⟩

set_option maxRecDepth 100000 in
set_option maxHeartbeats 1000000 in
theorem Sscut (g : Nat) (A : Option Addr) (c : Nat) (xs : List ByteArray) (left : Int) (W : World) (M : Nat → Prop) (HS : St W M W [blk g [.slice A xs.length c] 95, row A xs.length c (cz xs) 9 1]) (hl : xs.length ≤ 1099511627776) : Calls Try.prog 66 #[.pointer (some ⟨g, 0, none⟩), .int .i64 left] W fun e W' => ∃ A' c', e = .returned (.slice A' (xs.drop (min xs.length left.toNat)).reverse.length c') ∧ St W M W' [row A' (xs.drop (min xs.length left.toNat)).reverse.length c' (cz ((xs.drop (min xs.length left.toNat)).reverse)) 9 1, blk g [.slice A ((xs.take (min xs.length left.toNat)).length) c] 95, row A ((xs.take (min xs.length left.toNat)).length) c (cz (xs.take (min xs.length left.toNat))) 9 1] := by
  refine calls_enter [.pointer (some ⟨g, 0, none⟩), .int .i64 left, undef, undef, undef, undef, undef, undef, undef, undef, undef, undef, undef, undef, undef, undef, undef, undef, undef, undef, undef, undef, undef] Try.func66 rfl (by kernel_rfl) ?_
  refine wp_seq ?_
  refine wp_region_lit ?_
  refine ql (.slice none 0 0) (by kernel_rfl) (by kernel_rfl) ?_
  refine wpList_nil ?_
  refine x_then ?_
  refine wp_seq ?_
  refine wp_region_lit ?_
  refine ql (.slice none 0 0) (by kernel_rfl) (by kernel_rfl) ?_
  refine wpList_nil ?_
  refine x_then ?_
  refine wp_seq ?_
  refine wp_block ?_
  replace HS : St W M W [row none 0 0 (cz ([])) 9 1, blk g [.slice A xs.length c] 95, row A xs.length c (cz xs) 9 1] := (HS.nilRow 9 1).cast_ (by kernel_rfl)
  refine wp_loop_ghost (fun kq a' w' => ∃ (J1 : Nat → Value) (q : List ByteArray) (Ao : Option Addr) (co : Nat) (os : List ByteArray) , a' = Fr [.pointer (some ⟨g, 0, none⟩), .int .i64 left, undef, undef, .slice none 0 0, .slice Ao os.length co, (J1 6), (J1 7), (J1 8), (J1 9), (J1 10), (J1 11), (J1 12), (J1 13), (J1 14), (J1 15), (J1 16), (J1 17), (J1 18), (J1 19), (J1 20), (J1 21), undef] ∧ kq = (q.length) ∧ (q = xs.take q.length) ∧ (q.length ≤ xs.length) ∧ (xs.length ≤ q.length ∨ left ≤ q.length) ∧ (os = (xs.drop q.length).reverse) ∧ (os.length + q.length = xs.length) ∧ St W M w' [row Ao os.length co (cz os) 9 1, blk g [.slice A q.length c] 95, row A q.length c (cz q) 9 1]) (xs.length) ⟨(fun k_ : Nat => List.getD [.pointer (some ⟨g, 0, none⟩), .int .i64 left, undef, undef, .slice none 0 0, .slice none 0 0, undef, undef, undef, undef, undef, undef, undef, undef, undef, undef, undef, undef, undef, undef, undef, undef, undef] k_ undef), xs, none, 0, ([] : List ByteArray), congrArg Fr (by kernel_rfl), rfl, by rw [List.take_length], Nat.le_refl _, by omega, by simp, by simp, HS⟩ ?_
  clear HS
  intro kq2 a' W3 hrel
  obtain ⟨J1, q, Ao, co, os, rfl, hk, hq, hql, hqm, ho, hol, HS⟩ := hrel
  refine wp_seq ?_
  refine wp_seq ?_
  refine wp_region_lit ?_
  refine ql (.pointer (some ⟨g, 0, none⟩)) (by kernel_rfl) (by kernel_rfl) ?_
  refine qc (f := 69) (args := #[.pointer (some ⟨g, 0, none⟩)]) (by kernel_rfl) (R_call #[.pointer (some ⟨g, 0, none⟩)] Try.func69 (by kernel_rfl) (by kernel_rfl) (by kernel_rfl)) ?_
  refine (Sslen _ _ _ q _ (HS.cell (i := 1) (j := 0) rfl rfl)).mono ?_
  rintro e W4 ⟨rfl, H_⟩
  refine ⟨_, rfl, ?_⟩
  replace HS : St W M W4 [row Ao os.length co (cz os) 9 1, blk g [.slice A q.length c] 95, row A q.length c (cz q) 9 1] := HS.join (F := []) (G := []) H_
  clear H_
  refine ql (.int .i64 left) (by kernel_rfl) (by kernel_rfl) ?_
  refine ql (.int .i64 (max left (0 : Int))) (by kernel_rfl) (R_max (i := left) (j := 0) (by kernel_rfl) (by kernel_rfl)) ?_
  by_cases hc5 : (q.length : Int) > (max left (0 : Int))
  · skip
    refine ql (.bool true) (by kernel_rfl) (R_bool (p := (q.length : Int) > (max left (0 : Int))) (by kernel_rfl) (hc5)) ?_
    refine wpList_nil ?_
    refine x_then ?_
    refine wp_cond_true (by kernel_rfl) ?_
    refine wp_skip ?_
    refine x_then ?_
    refine wp_block ?_
    refine wp_seq ?_
    refine wp_region_lit ?_
    refine ql (.pointer (some ⟨g, 0, none⟩)) (by kernel_rfl) (by kernel_rfl) ?_
    refine qc (f := 67) (args := #[.pointer (some ⟨g, 0, none⟩)]) (by kernel_rfl) (R_call #[.pointer (some ⟨g, 0, none⟩)] Try.func67 (by kernel_rfl) (by kernel_rfl) (by kernel_rfl)) ?_
    obtain ⟨q2, hq2⟩ : ∃ z_ : List ByteArray, z_ = q.take (q.length - 1) := ⟨_, rfl⟩
    have hcs := Scut_step hq (by omega) hq2 ho
    replace HS : St W M W4 [blk g [.slice A q.length c] 95, row A q.length c (cz q) 9 1, row Ao os.length co (cz os) 9 1] := HS.perm (perm_ [1, 2, 0] (by kernel_rfl) rfl)
    refine (Spop_some _ _ _ q _ _ (St.focus (F := [blk g [.slice A q.length c] 95, row A q.length c (cz q) 9 1]) HS) (by omega) (by omega) (St.rcap HS (i := 1) rfl).1 q2 hq2).mono ?_
    rintro e W6 ⟨rfl, H_⟩
    refine ⟨_, rfl, ?_⟩
    replace HS : St W M W6 [blk g [.slice A q2.length c] 95, row A q2.length c (cz q2) 9 1, row Ao os.length co (cz os) 9 1] := HS.join (F := [blk g [.slice A q.length c] 95, row A q.length c (cz q) 9 1]) (G := [blk g [.slice A q2.length c] 95, row A q2.length c (cz q2) 9 1]) H_
    clear H_
    refine ql (.tuple #[.string (rdS q ((q.length : Int) - 1)), .bool true]) (by kernel_rfl) (by kernel_rfl) ?_
    refine ql (.string (rdS q ((q.length : Int) - 1))) (by kernel_rfl) (by kernel_rfl) ?_
    refine ql (.bool true) (by kernel_rfl) (by kernel_rfl) ?_
    refine ql (.string (rdS q ((q.length : Int) - 1))) (by kernel_rfl) (by kernel_rfl) ?_
    refine ql (.bool true) (by kernel_rfl) (by kernel_rfl) ?_
    refine wpList_nil ?_
    refine x_then ?_
    refine wp_region_lit ?_
    refine ql (.slice Ao os.length co) (by kernel_rfl) (by kernel_rfl) ?_
    refine ql (.string (rdS q ((q.length : Int) - 1))) (by kernel_rfl) (by kernel_rfl) ?_
    refine kl HS 1 [.string (rdS q ((q.length : Int) - 1))] 9 1 (by kernel_rfl) (by kernel_rfl) rfl (by decide) ?_
    intro g7 W8 H_
    replace HS : St W M W8 [row (some ⟨g7, 0, none⟩) 1 1 (cz ([rdS q ((q.length : Int) - 1)])) 9 1, blk g [.slice A q2.length c] 95, row A q2.length c (cz q2) 9 1, row Ao os.length co (cz os) 9 1] := H_.cast_ (by kernel_rfl)
    clear H_
    obtain ⟨xs12, xs12_⟩ : ∃ z_ : List ByteArray, z_ = os ++ ([rdS q ((q.length : Int) - 1)]) := ⟨_, rfl⟩
    have xs12l : xs12.length = os.length + 1 := by rw [xs12_, List.length_append] <;> (try simp only [List.length_cons, List.length_nil]) <;> omega
    refine ka1 HS 3 rfl (Src.of_row HS (i := 0) rfl cz_one) [.string ByteArray.empty] 16 xs12.length (cz xs12) (by omega) (by rw [xs12_, cz_app]) (by kernel_rfl) (by kernel_rfl) (by kernel_rfl) Try.underlying93 (by kernel_rfl) (by kernel_rfl) (by kernel_rfl) (by kernel_rfl) (by decide) (by omega) (by omega) ?_
    intro A9 c10 W11 H_
    replace HS : St W M W11 [row (some ⟨g7, 0, none⟩) 1 1 (cz ([rdS q ((q.length : Int) - 1)])) 9 1, blk g [.slice A q2.length c] 95, row A q2.length c (cz q2) 9 1, row A9 xs12.length c10 (cz xs12) 9 1] := H_
    clear H_
    refine ql (.slice A9 xs12.length c10) (by kernel_rfl) (by kernel_rfl) ?_
    refine wpList_nil ?_
    refine x_inb ?_
    replace HS : St W M W11 [row A9 xs12.length c10 (cz xs12) 9 1, blk g [.slice A q2.length c] 95, row A q2.length c (cz q2) 9 1] := St.tail (F := [row (some ⟨g7, 0, none⟩) 1 1 (cz ([rdS q ((q.length : Int) - 1)])) 9 1]) (HS.perm (perm_ [0, 3, 1, 2] (by kernel_rfl) rfl))
    refine x_then ?_
    exact ⟨q2.length, by omega, (fun k_ : Nat => List.getD [.pointer (some ⟨g, 0, none⟩), .int .i64 left, undef, undef, .slice none 0 0, .slice A9 xs12.length c10, .string (rdS q ((q.length : Int) - 1)), .bool true, .pointer (some ⟨g, 0, none⟩), .int .i64 (q.length : Int), .int .i64 left, .int .i64 (max left (0 : Int)), .bool true, .tuple #[.string (rdS q ((q.length : Int) - 1)), .bool true], .pointer (some ⟨g, 0, none⟩), .tuple #[.string (rdS q ((q.length : Int) - 1)), .bool true], .string (rdS q ((q.length : Int) - 1)), .bool true, .slice Ao os.length co, .string (rdS q ((q.length : Int) - 1)), .slice (some ⟨g7, 0, none⟩) 1 1, .slice A9 xs12.length c10, undef] k_ undef), q2, A9, c10, xs12, congrArg Fr (by kernel_rfl), rfl, hcs.2.1, by omega, by omega, by rw [xs12_]; exact hcs.2.2, by omega, HS⟩
  · skip
    refine ql (.bool false) (by kernel_rfl) (R_nbool (p := (q.length : Int) > (max left (0 : Int))) (by kernel_rfl) (hc5)) ?_
    refine wpList_nil ?_
    refine x_then ?_
    refine wp_cond_false (by kernel_rfl) ?_
    refine wp_exit ?_
    refine x_thenE ?_
    refine x_thenE ?_
    refine x_hit ?_
    refine x_then ?_
    refine wp_seq ?_
    refine wp_region_lit ?_
    refine ql (.slice Ao os.length co) (by kernel_rfl) (by kernel_rfl) ?_
    refine ql (.slice Ao os.length co) (by kernel_rfl) (by kernel_rfl) ?_
    refine wpList_nil ?_
    refine x_then ?_
    refine wp_ret ?_
    refine ret_ (.slice Ao os.length co) (by kernel_rfl) ?_
    have hqe : q.length = min xs.length left.toNat := by omega
    rw [hqe] at hq ho
    subst ho; subst hq
    exact ⟨_, _, rfl, HS⟩

set_option maxRecDepth 100000 in
set_option maxHeartbeats 1000000 in
theorem nil_slen (W : World) : Calls Try.prog 63 #[.pointer none] W fun e W' => e = .returned (.int .i64 0) ∧ St W (owns []) W' [] := by
  have HS : St W (owns []) W [] := St.start W _
  refine calls_enter [.pointer none, undef, undef, undef, undef, undef, undef, undef, undef, undef] Try.func63 rfl (by kernel_rfl) ?_
  refine wp_seq ?_
  refine wp_region_lit ?_
  refine ql (.int .i64 0) (by kernel_rfl) (by kernel_rfl) ?_
  refine wpList_nil ?_
  refine x_then ?_
  refine wp_seq ?_
  refine wp_seq ?_
  refine wp_region_lit ?_
  refine ql (.pointer none) (by kernel_rfl) (by kernel_rfl) ?_
  refine ql (.bool true) (by kernel_rfl) (by kernel_rfl) ?_
  refine wpList_nil ?_
  refine x_then ?_
  refine wp_cond_true (by kernel_rfl) ?_
  refine wp_seq ?_
  refine wp_region_lit ?_
  refine ql (.int .i64 0) (by kernel_rfl) (by kernel_rfl) ?_
  refine wpList_nil ?_
  refine x_then ?_
  refine wp_ret ?_
  refine x_thenR ?_
  refine ret_ (.int .i64 0) (by kernel_rfl) ?_
  exact ⟨rfl, HS⟩

set_option maxRecDepth 100000 in
set_option maxHeartbeats 1000000 in
theorem nil_qlen (W : World) : Calls Try.prog 43 #[.pointer none] W fun e W' => e = .returned (.int .i64 0) ∧ St W (owns []) W' [] := by
  have HS : St W (owns []) W [] := St.start W _
  refine calls_enter [.pointer none, undef, undef, undef, undef, undef, undef, undef, undef] Try.func43 rfl (by kernel_rfl) ?_
  refine wp_seq ?_
  refine wp_region_lit ?_
  refine ql (.int .i64 0) (by kernel_rfl) (by kernel_rfl) ?_
  refine wpList_nil ?_
  refine x_then ?_
  refine wp_seq ?_
  refine wp_seq ?_
  refine wp_region_lit ?_
  refine ql (.pointer none) (by kernel_rfl) (by kernel_rfl) ?_
  refine ql (.bool true) (by kernel_rfl) (by kernel_rfl) ?_
  refine wpList_nil ?_
  refine x_then ?_
  refine wp_cond_true (by kernel_rfl) ?_
  refine wp_seq ?_
  refine wp_region_lit ?_
  refine ql (.int .i64 0) (by kernel_rfl) (by kernel_rfl) ?_
  refine wpList_nil ?_
  refine x_then ?_
  refine wp_ret ?_
  refine x_thenR ?_
  refine ret_ (.int .i64 0) (by kernel_rfl) ?_
  exact ⟨rfl, HS⟩

set_option maxRecDepth 100000 in
set_option maxHeartbeats 1000000 in
theorem nil_wlen (W : World) : Calls Try.prog 44 #[.pointer none] W fun e W' => e = .returned (.int .i64 0) ∧ St W (owns []) W' [] := by
  have HS : St W (owns []) W [] := St.start W _
  refine calls_enter [.pointer none, undef, undef, undef, undef, undef, undef, undef, undef] Try.func44 rfl (by kernel_rfl) ?_
  refine wp_seq ?_
  refine wp_region_lit ?_
  refine ql (.int .i64 0) (by kernel_rfl) (by kernel_rfl) ?_
  refine wpList_nil ?_
  refine x_then ?_
  refine wp_seq ?_
  refine wp_seq ?_
  refine wp_region_lit ?_
  refine ql (.pointer none) (by kernel_rfl) (by kernel_rfl) ?_
  refine ql (.bool true) (by kernel_rfl) (by kernel_rfl) ?_
  refine wpList_nil ?_
  refine x_then ?_
  refine wp_cond_true (by kernel_rfl) ?_
  refine wp_seq ?_
  refine wp_region_lit ?_
  refine ql (.int .i64 0) (by kernel_rfl) (by kernel_rfl) ?_
  refine wpList_nil ?_
  refine x_then ?_
  refine wp_ret ?_
  refine x_thenR ?_
  refine ret_ (.int .i64 0) (by kernel_rfl) ?_
  exact ⟨rfl, HS⟩

set_option maxRecDepth 100000 in
set_option maxHeartbeats 1000000 in
theorem nil_top (W : World) : Calls Try.prog 62 #[.pointer none] W fun e W' => e = .returned (.tuple #[.int .i64 0, .bool false]) ∧ St W (owns []) W' [] := by
  have HS : St W (owns []) W [] := St.start W _
  refine calls_enter [.pointer none, undef, undef, undef, undef, undef, undef, undef, undef, undef, undef, undef, undef, undef, undef, undef, undef, undef, undef, undef, undef] Try.func62 rfl (by kernel_rfl) ?_
  refine wp_seq ?_
  refine wp_region_lit ?_
  refine ql (.int .i64 0) (by kernel_rfl) (by kernel_rfl) ?_
  refine ql (.bool false) (by kernel_rfl) (by kernel_rfl) ?_
  refine wpList_nil ?_
  refine x_then ?_
  refine wp_seq ?_
  refine wp_seq ?_
  refine wp_region_lit ?_
  refine ql (.pointer none) (by kernel_rfl) (by kernel_rfl) ?_
  refine qc (f := 63) (args := #[.pointer none]) (by kernel_rfl) (R_call #[.pointer none] Try.func63 (by kernel_rfl) (by kernel_rfl) (by kernel_rfl)) ?_
  refine (nil_slen _).mono ?_
  rintro e W1 ⟨rfl, H_⟩
  refine ⟨_, rfl, ?_⟩
  replace HS : St W (owns []) W1 [] := HS.join (F := []) (G := []) H_
  clear H_
  refine ql (.bool true) (by kernel_rfl) (R_beq (b := ((0 : Int) == 0)) (by kernel_rfl) (by decide)) ?_
  refine wpList_nil ?_
  refine x_then ?_
  refine wp_cond_true (by kernel_rfl) ?_
  refine wp_seq ?_
  refine wp_region_lit ?_
  refine ql (.int .i64 0) (by kernel_rfl) (by kernel_rfl) ?_
  refine wpList_nil ?_
  refine x_then ?_
  refine wp_seq ?_
  refine wp_region_lit ?_
  refine ql (.int .i64 0) (by kernel_rfl) (by kernel_rfl) ?_
  refine ql (.int .i64 0) (by kernel_rfl) (by kernel_rfl) ?_
  refine ql (.bool false) (by kernel_rfl) (by kernel_rfl) ?_
  refine wpList_nil ?_
  refine x_then ?_
  refine wp_ret ?_
  refine x_thenR ?_
  refine ret_ (.tuple #[.int .i64 0, .bool false]) (by kernel_rfl) ?_
  exact ⟨rfl, HS⟩

set_option maxRecDepth 100000 in
set_option maxHeartbeats 1000000 in
theorem nil_pop (W : World) : Calls Try.prog 58 #[.pointer none] W fun e W' => e = .returned (.tuple #[.int .i64 0, .bool false]) ∧ St W (owns []) W' [] := by
  have HS : St W (owns []) W [] := St.start W _
  refine calls_enter [.pointer none, undef, undef, undef, undef, undef, undef, undef, undef, undef, undef, undef, undef, undef, undef, undef, undef, undef, undef, undef, undef, undef, undef, undef, undef, undef, undef, undef, undef, undef, undef, undef, undef, undef, undef, undef, undef, undef, undef, undef, undef] Try.func58 rfl (by kernel_rfl) ?_
  refine wp_seq ?_
  refine wp_region_lit ?_
  refine ql (.int .i64 0) (by kernel_rfl) (by kernel_rfl) ?_
  refine ql (.bool false) (by kernel_rfl) (by kernel_rfl) ?_
  refine wpList_nil ?_
  refine x_then ?_
  refine wp_seq ?_
  refine wp_region_lit ?_
  refine ql (.pointer none) (by kernel_rfl) (by kernel_rfl) ?_
  refine qc (f := 62) (args := #[.pointer none]) (by kernel_rfl) (R_call #[.pointer none] Try.func62 (by kernel_rfl) (by kernel_rfl) (by kernel_rfl)) ?_
  refine (nil_top _).mono ?_
  rintro e W1 ⟨rfl, H_⟩
  refine ⟨_, rfl, ?_⟩
  replace HS : St W (owns []) W1 [] := HS.join (F := []) (G := []) H_
  clear H_
  refine ql (.tuple #[.int .i64 0, .bool false]) (by kernel_rfl) (by kernel_rfl) ?_
  refine ql (.int .i64 0) (by kernel_rfl) (by kernel_rfl) ?_
  refine ql (.bool false) (by kernel_rfl) (by kernel_rfl) ?_
  refine ql (.int .i64 0) (by kernel_rfl) (by kernel_rfl) ?_
  refine ql (.bool false) (by kernel_rfl) (by kernel_rfl) ?_
  refine wpList_nil ?_
  refine x_then ?_
  refine wp_seq ?_
  refine wp_seq ?_
  refine wp_region_lit ?_
  refine ql (.bool false) (by kernel_rfl) (by kernel_rfl) ?_
  refine wpList_nil ?_
  refine x_then ?_
  refine wp_cond_false (by kernel_rfl) ?_
  refine wp_skip ?_
  refine x_then ?_
  refine wp_seq ?_
  refine wp_region_lit ?_
  refine ql (.int .i64 0) (by kernel_rfl) (by kernel_rfl) ?_
  refine ql (.bool false) (by kernel_rfl) (by kernel_rfl) ?_
  refine ql (.int .i64 0) (by kernel_rfl) (by kernel_rfl) ?_
  refine ql (.bool false) (by kernel_rfl) (by kernel_rfl) ?_
  refine wpList_nil ?_
  refine x_then ?_
  refine wp_ret ?_
  refine ret_ (.tuple #[.int .i64 0, .bool false]) (by kernel_rfl) ?_
  exact ⟨rfl, HS⟩

set_option maxRecDepth 100000 in
set_option maxHeartbeats 1000000 in
theorem nil_qpop (W : World) : Calls Try.prog 40 #[.pointer none] W fun e W' => e = .returned (.tuple #[.int .i64 0, .bool false]) ∧ St W (owns []) W' [] := by
  have HS : St W (owns []) W [] := St.start W _
  refine calls_enter ((.pointer none) :: undef :: undef :: undef :: undef :: undef :: undef :: undef :: undef :: undef :: undef :: undef :: undef :: undef :: undef :: undef :: undef :: undef :: undef :: undef :: undef :: undef :: undef :: undef :: undef :: undef :: undef :: undef :: undef :: undef :: undef :: undef :: undef :: undef :: undef :: undef :: undef :: undef :: undef :: undef :: undef :: undef :: undef :: undef :: undef :: undef :: undef :: undef :: undef :: undef :: undef :: undef :: []) Try.func40 rfl (by kernel_rfl) ?_
  refine wp_seq ?_
  refine wp_region_lit ?_
  refine ql (.int .i64 0) (by kernel_rfl) (by kernel_rfl) ?_
  refine ql (.bool false) (by kernel_rfl) (by kernel_rfl) ?_
  refine wpList_nil ?_
  refine x_then ?_
  refine wp_seq ?_
  refine wp_region_lit ?_
  refine ql (.int .i64 0) (by kernel_rfl) (by kernel_rfl) ?_
  refine wpList_nil ?_
  refine x_then ?_
  refine wp_seq ?_
  refine wp_seq ?_
  refine wp_region_lit ?_
  refine ql (.pointer none) (by kernel_rfl) (by kernel_rfl) ?_
  refine qc (f := 43) (args := #[.pointer none]) (by kernel_rfl) (R_call #[.pointer none] Try.func43 (by kernel_rfl) (by kernel_rfl) (by kernel_rfl)) ?_
  refine (nil_qlen _).mono ?_
  rintro e W1 ⟨rfl, H_⟩
  refine ⟨_, rfl, ?_⟩
  replace HS : St W (owns []) W1 [] := HS.join (F := []) (G := []) H_
  clear H_
  refine ql (.bool true) (by kernel_rfl) (R_beq (b := ((0 : Int) == 0)) (by kernel_rfl) (by decide)) ?_
  refine wpList_nil ?_
  refine x_then ?_
  refine wp_cond_true (by kernel_rfl) ?_
  refine wp_seq ?_
  refine wp_region_lit ?_
  refine ql (.int .i64 0) (by kernel_rfl) (by kernel_rfl) ?_
  refine ql (.int .i64 0) (by kernel_rfl) (by kernel_rfl) ?_
  refine ql (.bool false) (by kernel_rfl) (by kernel_rfl) ?_
  refine wpList_nil ?_
  refine x_then ?_
  refine wp_ret ?_
  refine x_thenR ?_
  refine ret_ (.tuple #[.int .i64 0, .bool false]) (by kernel_rfl) ?_
  exact ⟨rfl, HS⟩

set_option maxRecDepth 100000 in
set_option maxHeartbeats 1000000 in
theorem nil_wpop (W : World) : Calls Try.prog 42 #[.pointer none] W fun e W' => e = .returned (.tuple #[.int .i64 0, .bool false]) ∧ St W (owns []) W' [] := by
  have HS : St W (owns []) W [] := St.start W _
  refine calls_enter [.pointer none, undef, undef, undef, undef, undef, undef, undef, undef, undef, undef, undef, undef, undef, undef, undef, undef, undef, undef, undef, undef, undef, undef, undef, undef] Try.func42 rfl (by kernel_rfl) ?_
  refine wp_seq ?_
  refine wp_region_lit ?_
  refine ql (.int .i64 0) (by kernel_rfl) (by kernel_rfl) ?_
  refine ql (.bool false) (by kernel_rfl) (by kernel_rfl) ?_
  refine wpList_nil ?_
  refine x_then ?_
  refine wp_seq ?_
  refine wp_seq ?_
  refine wp_region_lit ?_
  refine ql (.pointer none) (by kernel_rfl) (by kernel_rfl) ?_
  refine ql (.bool true) (by kernel_rfl) (by kernel_rfl) ?_
  refine wpList_nil ?_
  refine x_then ?_
  refine wp_cond_true (by kernel_rfl) ?_
  refine wp_seq ?_
  refine wp_region_lit ?_
  refine ql (.int .i64 0) (by kernel_rfl) (by kernel_rfl) ?_
  refine wpList_nil ?_
  refine x_then ?_
  refine wp_seq ?_
  refine wp_region_lit ?_
  refine ql (.int .i64 0) (by kernel_rfl) (by kernel_rfl) ?_
  refine ql (.int .i64 0) (by kernel_rfl) (by kernel_rfl) ?_
  refine ql (.bool false) (by kernel_rfl) (by kernel_rfl) ?_
  refine wpList_nil ?_
  refine x_then ?_
  refine wp_ret ?_
  refine x_thenR ?_
  refine ret_ (.tuple #[.int .i64 0, .bool false]) (by kernel_rfl) ?_
  exact ⟨rfl, HS⟩

set_option maxRecDepth 100000 in
set_option maxHeartbeats 1000000 in
theorem nil_spush (B : Option Addr) (n d : Nat) (W : World) : Calls Try.prog 56 #[.pointer none, .slice B n d] W fun e W' => e = .returned (.tuple #[]) ∧ St W (owns []) W' [] := by
  have HS : St W (owns []) W [] := St.start W _
  refine calls_enter [.pointer none, .slice B n d, undef, undef, undef, undef, undef, undef, undef, undef, undef, undef, undef, undef, undef] Try.func56 rfl (by kernel_rfl) ?_
  refine wp_seq ?_
  refine wp_region_lit ?_
  refine ql (.pointer none) (by kernel_rfl) (by kernel_rfl) ?_
  refine ql (.bool false) (by kernel_rfl) (by kernel_rfl) ?_
  refine wpList_nil ?_
  refine x_then ?_
  refine wp_cond_false (by kernel_rfl) ?_
  refine wp_skip ?_
  refine end_ (.tuple #[]) (by kernel_rfl) ?_
  exact ⟨rfl, HS⟩

set_option maxRecDepth 100000 in
set_option maxHeartbeats 1000000 in
theorem nil_qpush (B : Option Addr) (n d : Nat) (W : World) : Calls Try.prog 36 #[.pointer none, .slice B n d] W fun e W' => e = .returned (.tuple #[]) ∧ St W (owns []) W' [] := by
  have HS : St W (owns []) W [] := St.start W _
  refine calls_enter ((.pointer none) :: (.slice B n d) :: undef :: undef :: undef :: undef :: undef :: undef :: undef :: undef :: undef :: undef :: undef :: undef :: undef :: undef :: undef :: undef :: undef :: undef :: undef :: undef :: undef :: undef :: undef :: undef :: undef :: undef :: undef :: undef :: undef :: undef :: undef :: undef :: undef :: undef :: undef :: undef :: undef :: undef :: undef :: undef :: undef :: undef :: undef :: undef :: undef :: undef :: undef :: undef :: undef :: undef :: undef :: undef :: undef :: undef :: undef :: undef :: undef :: undef :: undef :: undef :: undef :: undef :: undef :: undef :: undef :: undef :: undef :: undef :: undef :: undef :: undef :: undef :: undef :: undef :: undef :: undef :: undef :: undef :: undef :: undef :: undef :: undef :: undef :: undef :: undef :: undef :: undef :: undef :: undef :: undef :: undef :: []) Try.func36 rfl (by kernel_rfl) ?_
  refine wp_seq ?_
  refine wp_seq ?_
  refine wp_region_lit ?_
  refine ql (.pointer none) (by kernel_rfl) (by kernel_rfl) ?_
  refine ql (.bool true) (by kernel_rfl) (by kernel_rfl) ?_
  refine wpList_nil ?_
  refine x_then ?_
  refine wp_cond_true (by kernel_rfl) ?_
  refine wp_ret ?_
  refine x_thenR ?_
  refine ret_ (.tuple #[]) (by kernel_rfl) ?_
  exact ⟨rfl, HS⟩

set_option maxRecDepth 100000 in
set_option maxHeartbeats 1000000 in
theorem nil_wpush (W : World) : Calls Try.prog 38 #[.pointer none, .int .i64 1] W fun e W' => e = .returned (.bool false) ∧ St W (owns []) W' [] := by
  have HS : St W (owns []) W [] := St.start W _
  refine calls_enter [.pointer none, .int .i64 1, undef, undef, undef, undef, undef, undef, undef, undef, undef, undef, undef, undef, undef, undef, undef, undef, undef, undef, undef, undef, undef, undef, undef, undef, undef, undef, undef, undef, undef, undef, undef, undef, undef, undef, undef, undef, undef, undef, undef] Try.func38 rfl (by kernel_rfl) ?_
  refine wp_seq ?_
  refine wp_region_lit ?_
  refine ql (.bool false) (by kernel_rfl) (by kernel_rfl) ?_
  refine wpList_nil ?_
  refine x_then ?_
  refine wp_seq ?_
  refine wp_seq ?_
  refine wp_region_lit ?_
  refine ql (.pointer none) (by kernel_rfl) (by kernel_rfl) ?_
  refine ql (.bool true) (by kernel_rfl) (by kernel_rfl) ?_
  refine wpList_nil ?_
  refine x_then ?_
  refine wp_cond_true (by kernel_rfl) ?_
  refine wp_seq ?_
  refine wp_region_lit ?_
  refine ql (.bool false) (by kernel_rfl) (by kernel_rfl) ?_
  refine wpList_nil ?_
  refine x_then ?_
  refine wp_ret ?_
  refine x_thenR ?_
  refine ret_ (.bool false) (by kernel_rfl) ?_
  exact ⟨rfl, HS⟩

set_option maxRecDepth 100000 in
set_option maxHeartbeats 1000000 in
theorem nil_scut (W : World) : Calls Try.prog 61 #[.pointer none, .int .i64 0] W fun e W' => e = .returned (.slice none 0 0) ∧ St W (owns []) W' [] := by
  have HS : St W (owns []) W [] := St.start W _
  refine calls_enter [.pointer none, .int .i64 0, undef, undef, undef, undef, undef, undef, undef, undef, undef, undef, undef, undef, undef, undef, undef, undef, undef, undef, undef, undef, undef] Try.func61 rfl (by kernel_rfl) ?_
  refine wp_seq ?_
  refine wp_region_lit ?_
  refine ql (.slice none 0 0) (by kernel_rfl) (by kernel_rfl) ?_
  refine wpList_nil ?_
  refine x_then ?_
  refine wp_seq ?_
  refine wp_region_lit ?_
  refine ql (.slice none 0 0) (by kernel_rfl) (by kernel_rfl) ?_
  refine wpList_nil ?_
  refine x_then ?_
  refine wp_seq ?_
  refine wp_block ?_
  refine wp_loop_ghost (fun kq a' w' => ∃ (J1 : Nat → Value) , a' = Fr [.pointer none, .int .i64 0, undef, undef, .slice none 0 0, .slice none 0 0, (J1 6), (J1 7), (J1 8), (J1 9), (J1 10), (J1 11), (J1 12), (J1 13), (J1 14), (J1 15), (J1 16), (J1 17), (J1 18), (J1 19), (J1 20), (J1 21), undef] ∧ kq = (0) ∧ St W (owns []) w' []) (0) ⟨(fun k_ : Nat => List.getD [.pointer none, .int .i64 0, undef, undef, .slice none 0 0, .slice none 0 0, undef, undef, undef, undef, undef, undef, undef, undef, undef, undef, undef, undef, undef, undef, undef, undef, undef] k_ undef), congrArg Fr (by kernel_rfl), rfl, HS⟩ ?_
  clear HS
  intro kq2 a' W3 hrel
  obtain ⟨J1, rfl, hk, HS⟩ := hrel
  refine wp_seq ?_
  refine wp_seq ?_
  refine wp_region_lit ?_
  refine ql (.pointer none) (by kernel_rfl) (by kernel_rfl) ?_
  refine qc (f := 63) (args := #[.pointer none]) (by kernel_rfl) (R_call #[.pointer none] Try.func63 (by kernel_rfl) (by kernel_rfl) (by kernel_rfl)) ?_
  refine (nil_slen _).mono ?_
  rintro e W4 ⟨rfl, H_⟩
  refine ⟨_, rfl, ?_⟩
  replace HS : St W (owns []) W4 [] := HS.join (F := []) (G := []) H_
  clear H_
  refine ql (.int .i64 0) (by kernel_rfl) (by kernel_rfl) ?_
  refine ql (.int .i64 (max (0 : Int) (0 : Int))) (by kernel_rfl) (R_max (i := 0) (j := 0) (by kernel_rfl) (by kernel_rfl)) ?_
  refine ql (.bool false) (by kernel_rfl) (R_nbool (p := (0 : Int) > (max (0 : Int) (0 : Int))) (by kernel_rfl) (by decide)) ?_
  refine wpList_nil ?_
  refine x_then ?_
  refine wp_cond_false (by kernel_rfl) ?_
  refine wp_exit ?_
  refine x_thenE ?_
  refine x_thenE ?_
  refine x_hit ?_
  refine x_then ?_
  refine wp_seq ?_
  refine wp_region_lit ?_
  refine ql (.slice none 0 0) (by kernel_rfl) (by kernel_rfl) ?_
  refine ql (.slice none 0 0) (by kernel_rfl) (by kernel_rfl) ?_
  refine wpList_nil ?_
  refine x_then ?_
  refine wp_ret ?_
  refine ret_ (.slice none 0 0) (by kernel_rfl) ?_
  exact ⟨rfl, HS⟩

theorem rdS_drop {l : List ByteArray} {i : Int} (h0 : 0 ≤ i) (h1 : i < l.length) : rdS (l.drop i.toNat) 0 = rdS l i := by
  unfold rdS; simp [List.getD_eq_getElem?_getD]
theorem drop_one_ {l : List ByteArray} {i : Int} (h0 : 0 ≤ i) : (l.drop i.toNat).tail = l.drop (i + 1).toNat := by
  rw [show (i + 1).toNat = i.toNat + 1 by omega, List.tail_drop]
theorem rev_last {l xs : List ByteArray} {i : Int} (h0 : 0 ≤ i) (h1 : i < l.length) (hx : xs = (l.drop i.toNat).reverse) : rdS xs ((xs.length : Int) - 1) = rdS l i := by
  have hi : i.toNat < l.length := by omega
  have hd : l.drop i.toNat = l[i.toNat] :: l.drop (i.toNat + 1) := List.drop_eq_getElem_cons hi
  rw [hd, List.reverse_cons] at hx
  have hl : ((xs.length : Int) - 1).toNat = (l.drop (i.toNat + 1)).reverse.length := by rw [hx, List.length_append, List.length_singleton]; omega
  unfold rdS
  rw [hl, hx, List.getD_eq_getElem?_getD, List.getElem?_append_right (Nat.le_refl _), Nat.sub_self, List.getD_eq_getElem?_getD, List.getElem?_eq_getElem hi]
  rfl
theorem rev_cut {l xs q : List ByteArray} {i : Int} (h0 : 0 ≤ i) (h1 : i < l.length) (hx : xs = (l.drop i.toNat).reverse) (hq : q = xs.take (xs.length - 1)) : q = (l.drop (i + 1).toNat).reverse := by
  have hi : i.toNat < l.length := by omega
  have hd : l.drop i.toNat = l[i.toNat] :: l.drop (i.toNat + 1) := List.drop_eq_getElem_cons hi
  rw [hd, List.reverse_cons] at hx
  rw [hq, hx, List.length_append, List.length_singleton, Nat.add_sub_cancel, List.take_append_of_le_length (Nat.le_refl _), List.take_length, show (i + 1).toNat = i.toNat + 1 by omega]

theorem Sscut0 (g : Nat) (A : Option Addr) (c : Nat) (xs : List ByteArray) (W : World) (M : Nat → Prop) (HS : St W M W [blk g [.slice A xs.length c] 95, row A xs.length c (cz xs) 9 1]) (hl : xs.length ≤ 1099511627776) : Calls Try.prog 66 #[.pointer (some ⟨g, 0, none⟩), .int .i64 0] W fun e W' => ∃ A' c' os, e = .returned (.slice A' (os : List ByteArray).length c') ∧ St W M W' [row A' os.length c' (cz os) 9 1, blk g [.slice A 0 c] 95, row A 0 c (cz []) 9 1] ∧ os = xs.reverse := by
  refine (Sscut g A c xs 0 W M HS hl).mono ?_
  rintro e W' ⟨A', c', he, hs⟩
  have e1 : xs.drop (min xs.length (0 : Int).toNat) = xs := by simp
  have e2 : xs.take (min xs.length (0 : Int).toNat) = [] := by simp
  rw [e1] at he hs
  rw [e2] at hs
  exact ⟨A', c', xs.reverse, he, hs, rfl⟩

set_option maxRecDepth 100000 in
set_option maxHeartbeats 1000000 in
theorem StackTurns_walk (A : Option Addr) (c : Nat) (ls : List ByteArray) (W : World) (hr : Rd W A (cz ls)) (hcc : ls.length ≤ c) : Calls Try.prog 13 #[.slice A ls.length c] W fun e W' => e = .returned (.bool true) ∧ St W (owns []) W' [] := by
  have HS : St W (owns []) W [] := St.start W _
  refine calls_enter ((.slice A ls.length c) :: undef :: undef :: undef :: undef :: undef :: undef :: undef :: undef :: undef :: undef :: undef :: undef :: undef :: undef :: undef :: undef :: undef :: undef :: undef :: undef :: undef :: undef :: undef :: undef :: undef :: undef :: undef :: undef :: undef :: undef :: undef :: undef :: undef :: undef :: undef :: undef :: undef :: undef :: undef :: undef :: undef :: undef :: undef :: undef :: undef :: undef :: undef :: undef :: undef :: undef :: undef :: undef :: undef :: undef :: undef :: undef :: undef :: undef :: undef :: undef :: undef :: undef :: undef :: undef :: undef :: undef :: undef :: undef :: undef :: undef :: undef :: undef :: undef :: undef :: undef :: undef :: undef :: undef :: undef :: undef :: undef :: undef :: undef :: undef :: undef :: undef :: undef :: undef :: undef :: undef :: undef :: undef :: undef :: undef :: undef :: undef :: undef :: undef :: undef :: undef :: undef :: undef :: undef :: undef :: undef :: undef :: undef :: undef :: undef :: undef :: undef :: undef :: undef :: undef :: undef :: undef :: undef :: undef :: undef :: undef :: undef :: undef :: undef :: undef :: undef :: undef :: undef :: undef :: undef :: undef :: undef :: undef :: undef :: undef :: undef :: undef :: undef :: undef :: undef :: undef :: undef :: undef :: undef :: undef :: undef :: undef :: undef :: undef :: undef :: undef :: undef :: undef :: undef :: undef :: undef :: undef :: undef :: undef :: undef :: undef :: undef :: undef :: []) Try.func13 rfl (by kernel_rfl) ?_
  refine wp_seq ?_
  refine wp_region_lit ?_
  refine ql (.bool false) (by kernel_rfl) (by kernel_rfl) ?_
  refine wpList_nil ?_
  refine x_then ?_
  refine wp_seq ?_
  refine wp_seq ?_
  refine wp_region_lit ?_
  refine ql (.slice A ls.length c) (by kernel_rfl) (by kernel_rfl) ?_
  refine ql (.int .i64 (ls.length : Int)) (by kernel_rfl) (by kernel_rfl) ?_
  by_cases hc1 : (ls.length : Int) > (100 : Int)
  · skip
    refine ql (.bool true) (by kernel_rfl) (R_bool (p := (ls.length : Int) > (100 : Int)) (by kernel_rfl) (hc1)) ?_
    refine wpList_nil ?_
    refine x_then ?_
    refine wp_cond_true (by kernel_rfl) ?_
    refine wp_seq ?_
    refine wp_region_lit ?_
    refine qc (f := 35) (args := #[]) (by kernel_rfl) (R_call #[] Try.func35 (by kernel_rfl) (by kernel_rfl) (by kernel_rfl)) ?_
    refine (awake07 _).mono ?_
    rintro e W2 ⟨rfl, H_⟩
    refine ⟨_, rfl, ?_⟩
    replace HS : St W (owns []) W2 [] := HS.join (F := []) (G := []) H_
    clear H_
    refine ql (.bool true) (by kernel_rfl) (by kernel_rfl) ?_
    refine wpList_nil ?_
    refine x_then ?_
    refine wp_ret ?_
    refine x_thenR ?_
    refine ret_ (.bool true) (by kernel_rfl) ?_
    exact ⟨rfl, HS⟩
  · skip
    refine ql (.bool false) (by kernel_rfl) (R_nbool (p := (ls.length : Int) > (100 : Int)) (by kernel_rfl) (hc1)) ?_
    refine wpList_nil ?_
    refine x_then ?_
    refine wp_cond_false (by kernel_rfl) ?_
    refine wp_skip ?_
    refine x_then ?_
    refine wp_seq ?_
    refine wp_seq ?_
    refine wp_region_lit ?_
    refine ql (.int .i64 0) (by kernel_rfl) (by kernel_rfl) ?_
    refine wpList_nil ?_
    refine x_then ?_
    refine wp_block ?_
    refine wp_loop_ghost (fun kq a' w' => ∃ (J3 : Nat → Value) (j : Int) , a' = Fr ((.slice A ls.length c) :: undef :: ((J3 2)) :: (.int .i64 j) :: undef :: undef :: undef :: undef :: undef :: undef :: undef :: undef :: undef :: undef :: undef :: undef :: undef :: undef :: undef :: undef :: undef :: undef :: undef :: (.slice A ls.length c) :: (.int .i64 (ls.length : Int)) :: (.bool false) :: undef :: ((J3 27)) :: ((J3 28)) :: ((J3 29)) :: ((J3 30)) :: ((J3 31)) :: ((J3 32)) :: ((J3 33)) :: ((J3 34)) :: ((J3 35)) :: ((J3 36)) :: ((J3 37)) :: ((J3 38)) :: ((J3 39)) :: undef :: undef :: undef :: undef :: undef :: undef :: undef :: undef :: undef :: undef :: undef :: undef :: undef :: undef :: undef :: undef :: undef :: undef :: undef :: undef :: undef :: undef :: undef :: undef :: undef :: undef :: undef :: undef :: undef :: undef :: undef :: undef :: undef :: undef :: undef :: undef :: undef :: undef :: undef :: undef :: undef :: undef :: undef :: undef :: undef :: undef :: undef :: undef :: undef :: undef :: undef :: undef :: undef :: undef :: undef :: undef :: undef :: undef :: undef :: undef :: undef :: undef :: undef :: undef :: undef :: undef :: undef :: undef :: undef :: undef :: undef :: undef :: undef :: undef :: undef :: undef :: undef :: undef :: undef :: undef :: undef :: undef :: undef :: undef :: undef :: undef :: undef :: undef :: undef :: undef :: undef :: undef :: undef :: undef :: undef :: undef :: undef :: undef :: undef :: undef :: undef :: undef :: undef :: undef :: undef :: undef :: undef :: undef :: undef :: undef :: undef :: undef :: undef :: undef :: undef :: undef :: undef :: undef :: undef :: undef :: undef :: undef :: undef :: []) ∧ kq = (ls.length - (j).toNat) ∧ (0 ≤ j) ∧ St W (owns []) w' []) (ls.length - ((0 : Int)).toNat) ⟨(fun k_ : Nat => List.getD ((.slice A ls.length c) :: undef :: (.bool false) :: (.int .i64 0) :: undef :: undef :: undef :: undef :: undef :: undef :: undef :: undef :: undef :: undef :: undef :: undef :: undef :: undef :: undef :: undef :: undef :: undef :: undef :: (.slice A ls.length c) :: (.int .i64 (ls.length : Int)) :: (.bool false) :: undef :: undef :: undef :: undef :: undef :: undef :: undef :: undef :: undef :: undef :: undef :: undef :: undef :: undef :: undef :: undef :: undef :: undef :: undef :: undef :: undef :: undef :: undef :: undef :: undef :: undef :: undef :: undef :: undef :: undef :: undef :: undef :: undef :: undef :: undef :: undef :: undef :: undef :: undef :: undef :: undef :: undef :: undef :: undef :: undef :: undef :: undef :: undef :: undef :: undef :: undef :: undef :: undef :: undef :: undef :: undef :: undef :: undef :: undef :: undef :: undef :: undef :: undef :: undef :: undef :: undef :: undef :: undef :: undef :: undef :: undef :: undef :: undef :: undef :: undef :: undef :: undef :: undef :: undef :: undef :: undef :: undef :: undef :: undef :: undef :: undef :: undef :: undef :: undef :: undef :: undef :: undef :: undef :: undef :: undef :: undef :: undef :: undef :: undef :: undef :: undef :: undef :: undef :: undef :: undef :: undef :: undef :: undef :: undef :: undef :: undef :: undef :: undef :: undef :: undef :: undef :: undef :: undef :: undef :: undef :: undef :: undef :: undef :: undef :: undef :: undef :: undef :: undef :: undef :: undef :: undef :: undef :: undef :: undef :: undef :: undef :: undef :: []) k_ undef), (0 : Int), congrArg Fr (by kernel_rfl), rfl, by omega, HS⟩ ?_
    clear HS
    intro kq4 a' W5 hrel
    obtain ⟨J3, j, rfl, hk, j0, HS⟩ := hrel
    refine wp_seq ?_
    refine wp_seq ?_
    refine wp_region_lit ?_
    refine ql (.int .i64 j) (by kernel_rfl) (by kernel_rfl) ?_
    refine ql (.slice A ls.length c) (by kernel_rfl) (by kernel_rfl) ?_
    refine ql (.int .i64 (ls.length : Int)) (by kernel_rfl) (by kernel_rfl) ?_
    by_cases hc6 : j < (ls.length : Int)
    · skip
      refine ql (.bool true) (by kernel_rfl) (R_bool (p := j < (ls.length : Int)) (by kernel_rfl) (hc6)) ?_
      refine wpList_nil ?_
      refine x_then ?_
      refine wp_cond_true (by kernel_rfl) ?_
      refine wp_skip ?_
      refine x_then ?_
      refine wp_seq ?_
      refine wp_block ?_
      refine wp_seq ?_
      refine wp_region_lit ?_
      refine ql (.slice A ls.length c) (by kernel_rfl) (by kernel_rfl) ?_
      refine ql (.int .i64 j) (by kernel_rfl) (by kernel_rfl) ?_
      obtain ⟨ad7, rfl⟩ := Rd.isSome_ hr (by rw [cz_len]; omega)
      refine ql (.pointer (some (ad7.add j.toNat))) (by kernel_rfl) (R_indexA1 (k := .i64) (p := ad7) (n := ls.length) (c := c) (i := j) (by kernel_rfl) (by kernel_rfl) Try.underlying93 (by kernel_rfl) (by omega) (by omega)) ?_
      refine ql (.string (rdS ls j)) (by kernel_rfl) (R_load (p := ad7.add j.toNat) (by kernel_rfl) (by kernel_rfl) (by kernel_rfl) (HS.old0 (hr.at_ (cz_rd (i := j) (by omega) (by omega))))) ?_
      refine ql (.int .i64 ((rdS ls j).size : Int)) (by kernel_rfl) (by kernel_rfl) ?_
      by_cases hc8 : ((rdS ls j).size : Int) > (50 : Int)
      · skip
        refine ql (.bool true) (by kernel_rfl) (R_bool (p := ((rdS ls j).size : Int) > (50 : Int)) (by kernel_rfl) (hc8)) ?_
        refine wpList_nil ?_
        refine x_then ?_
        refine wp_cond_true (by kernel_rfl) ?_
        refine wp_seq ?_
        refine wp_region_lit ?_
        refine qc (f := 35) (args := #[]) (by kernel_rfl) (R_call #[] Try.func35 (by kernel_rfl) (by kernel_rfl) (by kernel_rfl)) ?_
        refine (awake07 _).mono ?_
        rintro e W9 ⟨rfl, H_⟩
        refine ⟨_, rfl, ?_⟩
        replace HS : St W (owns []) W9 [] := HS.join (F := []) (G := []) H_
        clear H_
        refine ql (.bool true) (by kernel_rfl) (by kernel_rfl) ?_
        refine wpList_nil ?_
        refine x_then ?_
        refine wp_ret ?_
        refine x_inbR ?_
        refine x_thenR ?_
        refine x_thenR ?_
        refine x_inbR ?_
        refine x_thenR ?_
        refine ret_ (.bool true) (by kernel_rfl) ?_
        exact ⟨rfl, HS⟩
      · skip
        refine ql (.bool false) (by kernel_rfl) (R_nbool (p := ((rdS ls j).size : Int) > (50 : Int)) (by kernel_rfl) (hc8)) ?_
        refine wpList_nil ?_
        refine x_then ?_
        refine wp_cond_false (by kernel_rfl) ?_
        refine wp_skip ?_
        refine x_inb ?_
        refine x_then ?_
        refine wp_region_lit ?_
        refine ql (.int .i64 j) (by kernel_rfl) (by kernel_rfl) ?_
        refine ql (.int .i64 (j + 1)) (by kernel_rfl) (R_int (by kernel_rfl) (w64 (by omega))) ?_
        refine ql (.int .i64 (j + 1)) (by kernel_rfl) (by kernel_rfl) ?_
        refine wpList_nil ?_
        refine x_then ?_
        exact ⟨ls.length - (j + 1).toNat, by omega, (fun k_ : Nat => List.getD ((.slice (some ad7) ls.length c) :: undef :: ((J3 2)) :: (.int .i64 (j + 1)) :: undef :: undef :: undef :: undef :: undef :: undef :: undef :: undef :: undef :: undef :: undef :: undef :: undef :: undef :: undef :: undef :: undef :: undef :: undef :: (.slice (some ad7) ls.length c) :: (.int .i64 (ls.length : Int)) :: (.bool false) :: undef :: (.int .i64 j) :: (.slice (some ad7) ls.length c) :: (.int .i64 (ls.length : Int)) :: (.bool true) :: (.int .i64 j) :: (.int .i64 (j + 1)) :: (.slice (some ad7) ls.length c) :: (.int .i64 j) :: (.pointer (some (ad7.add j.toNat))) :: (.string (rdS ls j)) :: (.int .i64 ((rdS ls j).size : Int)) :: (.bool false) :: ((J3 39)) :: undef :: undef :: undef :: undef :: undef :: undef :: undef :: undef :: undef :: undef :: undef :: undef :: undef :: undef :: undef :: undef :: undef :: undef :: undef :: undef :: undef :: undef :: undef :: undef :: undef :: undef :: undef :: undef :: undef :: undef :: undef :: undef :: undef :: undef :: undef :: undef :: undef :: undef :: undef :: undef :: undef :: undef :: undef :: undef :: undef :: undef :: undef :: undef :: undef :: undef :: undef :: undef :: undef :: undef :: undef :: undef :: undef :: undef :: undef :: undef :: undef :: undef :: undef :: undef :: undef :: undef :: undef :: undef :: undef :: undef :: undef :: undef :: undef :: undef :: undef :: undef :: undef :: undef :: undef :: undef :: undef :: undef :: undef :: undef :: undef :: undef :: undef :: undef :: undef :: undef :: undef :: undef :: undef :: undef :: undef :: undef :: undef :: undef :: undef :: undef :: undef :: undef :: undef :: undef :: undef :: undef :: undef :: undef :: undef :: undef :: undef :: undef :: undef :: undef :: undef :: undef :: undef :: undef :: undef :: undef :: undef :: undef :: undef :: []) k_ undef), j + 1, congrArg Fr (by kernel_rfl), rfl, by omega, HS⟩
    · skip
      refine ql (.bool false) (by kernel_rfl) (R_nbool (p := j < (ls.length : Int)) (by kernel_rfl) (hc6)) ?_
      refine wpList_nil ?_
      refine x_then ?_
      refine wp_cond_false (by kernel_rfl) ?_
      refine wp_exit ?_
      refine x_thenE ?_
      refine x_thenE ?_
      refine x_hit ?_
      refine x_then ?_
      refine wp_seq ?_
      refine wp_region_lit ?_
      refine kb HS [.slice none 0 0] 95 (fun g => .pointer (some ⟨g, 0, none⟩)) (by kernel_rfl) (by kernel_rfl) ?_
      intro g10 W11 H_
      replace HS : St W (owns []) W11 [blk g10 [.slice none 0 0] 95] := H_
      clear H_
      refine kb HS [.slice none 0 0] 95 (fun g => .pointer (some ⟨g, 0, none⟩)) (by kernel_rfl) (by kernel_rfl) ?_
      intro g12 W13 H_
      replace HS : St W (owns []) W13 [blk g12 [.slice none 0 0] 95, blk g10 [.slice none 0 0] 95] := H_
      clear H_
      refine wpList_nil ?_
      refine x_then ?_
      refine wp_seq ?_
      refine wp_region_lit ?_
      refine kb HS [.slice none 0 0, .int .i64 0, .int .i64 0] 97 (fun g => .pointer (some ⟨g, 0, none⟩)) (by kernel_rfl) (by kernel_rfl) ?_
      intro g14 W15 H_
      replace HS : St W (owns []) W15 [blk g14 [.slice none 0 0, .int .i64 0, .int .i64 0] 97, blk g12 [.slice none 0 0] 95, blk g10 [.slice none 0 0] 95] := H_
      clear H_
      refine wpList_nil ?_
      refine x_then ?_
      refine wp_seq ?_
      replace HS : St W (owns []) W15 [row none 0 0 (cz ([])) 9 1, blk g14 [.slice none 0 0, .int .i64 0, .int .i64 0] 97, blk g12 [.slice none 0 0] 95, blk g10 [.slice none 0 0] 95] := (HS.nilRow 9 1).cast_ (by kernel_rfl)
      replace HS : St W (owns []) W15 [row none 0 0 (cz ([])) 9 1, row none 0 0 (cz ([])) 9 1, blk g14 [.slice none 0 0, .int .i64 0, .int .i64 0] 97, blk g12 [.slice none 0 0] 95, blk g10 [.slice none 0 0] 95] := (HS.nilRow 9 1).cast_ (by kernel_rfl)
      replace HS : St W (owns []) W15 [row none 0 0 (cz ([])) 9 1, row none 0 0 (cz ([])) 9 1, row none 0 0 (cz ([])) 9 1, blk g14 [.slice none 0 0, .int .i64 0, .int .i64 0] 97, blk g12 [.slice none 0 0] 95, blk g10 [.slice none 0 0] 95] := (HS.nilRow 9 1).cast_ (by kernel_rfl)
      replace HS : St W (owns []) W15 [blk g10 [.slice none 0 0] 95, row none 0 0 (cz ([])) 9 1, blk g12 [.slice none 0 0] 95, row none 0 0 (cz ([])) 9 1, blk g14 [.slice none 0 0, .int .i64 0, .int .i64 0] 97, row none 0 0 (cz ([])) 9 1] := HS.perm (perm_ [5, 0, 4, 1, 3, 2] (by kernel_rfl) rfl)
      refine wp_region_lit ?_
      refine ql (.slice A ls.length c) (by kernel_rfl) (by kernel_rfl) ?_
      refine qc (f := 64) (args := #[.pointer (some ⟨g10, 0, none⟩), .slice A ls.length c]) (by kernel_rfl) (R_call #[.pointer (some ⟨g10, 0, none⟩), .slice A ls.length c] Try.func64 (by kernel_rfl) (by kernel_rfl) (by kernel_rfl)) ?_
      refine (Spush g10 none _ 0 _ [] ls _ _ (St.focus (F := [blk g10 [.slice none 0 0] 95, row none 0 0 (cz ([])) 9 1]) HS) (RdF.of_old (F := [blk g10 [.slice none 0 0] 95, row none 0 0 (cz ([])) 9 1]) hr HS) (Nat.zero_le _) (by omega)).mono ?_
      rintro e W16 ⟨Aa, ca, rfl, H_⟩
      refine ⟨_, rfl, ?_⟩
      replace HS : St W (owns []) W16 [blk g10 [.slice Aa (([] ++ ls).length) ca] 95, row Aa (([] ++ ls).length) ca (cz ([] ++ ls)) 9 1, blk g12 [.slice none 0 0] 95, row none 0 0 (cz ([])) 9 1, blk g14 [.slice none 0 0, .int .i64 0, .int .i64 0] 97, row none 0 0 (cz ([])) 9 1] := HS.join (F := [blk g10 [.slice none 0 0] 95, row none 0 0 (cz ([])) 9 1]) (G := [blk g10 [.slice Aa (([] ++ ls).length) ca] 95, row Aa (([] ++ ls).length) ca (cz ([] ++ ls)) 9 1]) H_
      clear H_
      refine wpList_nil ?_
      refine x_then ?_
      refine wp_seq ?_
      refine wp_region_lit ?_
      refine ql (.slice A ls.length c) (by kernel_rfl) (by kernel_rfl) ?_
      refine qc (f := 65) (args := #[.pointer (some ⟨g14, 0, none⟩), .slice A ls.length c]) (by kernel_rfl) (R_call #[.pointer (some ⟨g14, 0, none⟩), .slice A ls.length c] Try.func65 (by kernel_rfl) (by kernel_rfl) (by kernel_rfl)) ?_
      replace HS : St W (owns []) W16 [blk g14 [.slice none 0 0, .int .i64 0, .int .i64 0] 97, row none 0 0 (cz ([])) 9 1, blk g10 [.slice Aa (([] ++ ls).length) ca] 95, row Aa (([] ++ ls).length) ca (cz ([] ++ ls)) 9 1, blk g12 [.slice none 0 0] 95, row none 0 0 (cz ([])) 9 1] := HS.perm (perm_ [4, 5, 0, 1, 2, 3] (by kernel_rfl) rfl)
      refine (qpushSX g14 97 [] none _ 0 _ 0 0 [] [] ls _ _ (St.focus (F := [blk g14 [.slice none 0 0, .int .i64 0, .int .i64 0] 97, row none 0 0 (cz ([])) 9 1]) HS) (RdF.of_old (F := [blk g14 [.slice none 0 0, .int .i64 0, .int .i64 0] 97, row none 0 0 (cz ([])) 9 1]) hr HS) RQS.nil (by simp only [List.length_nil]; omega)).mono ?_
      rintro e W17 ⟨Aq, cq, fq, nq, rq, rfl, H_, hrq⟩
      refine ⟨_, rfl, ?_⟩
      replace HS : St W (owns []) W17 [blk g14 [.slice Aq rq.length cq, .int .i64 (fq : Int), .int .i64 (nq : Int)] 97, row Aq rq.length cq (cz rq) 9 1, blk g10 [.slice Aa (([] ++ ls).length) ca] 95, row Aa (([] ++ ls).length) ca (cz ([] ++ ls)) 9 1, blk g12 [.slice none 0 0] 95, row none 0 0 (cz ([])) 9 1] := HS.join (F := [blk g14 [.slice none 0 0, .int .i64 0, .int .i64 0] 97, row none 0 0 (cz ([])) 9 1]) (G := [blk g14 [.slice Aq rq.length cq, .int .i64 (fq : Int), .int .i64 (nq : Int)] 97, row Aq rq.length cq (cz rq) 9 1]) H_
      clear H_
      refine wpList_nil ?_
      refine x_then ?_
      refine wp_seq ?_
      refine wp_region_lit ?_
      refine qc (f := 66) (args := #[.pointer (some ⟨g10, 0, none⟩), .int .i64 0]) (by kernel_rfl) (R_call #[.pointer (some ⟨g10, 0, none⟩), .int .i64 0] Try.func66 (by kernel_rfl) (by kernel_rfl) (by kernel_rfl)) ?_
      replace HS : St W (owns []) W17 [blk g10 [.slice Aa (([] ++ ls).length) ca] 95, row Aa (([] ++ ls).length) ca (cz ([] ++ ls)) 9 1, blk g14 [.slice Aq rq.length cq, .int .i64 (fq : Int), .int .i64 (nq : Int)] 97, row Aq rq.length cq (cz rq) 9 1, blk g12 [.slice none 0 0] 95, row none 0 0 (cz ([])) 9 1] := HS.perm (perm_ [2, 3, 0, 1, 4, 5] (by kernel_rfl) rfl)
      refine (Sscut0 g10 _ ca ([] ++ ls) _ _ (St.focus (F := [blk g10 [.slice Aa (([] ++ ls).length) ca] 95, row Aa (([] ++ ls).length) ca (cz ([] ++ ls)) 9 1]) HS) (by simp only [List.nil_append]; omega)).mono ?_
      rintro e W18 ⟨Ac, cc, os, rfl, H_, hos⟩
      refine ⟨_, rfl, ?_⟩
      replace HS : St W (owns []) W18 [row Ac os.length cc (cz os) 9 1, blk g10 [.slice Aa 0 ca] 95, row Aa 0 ca (cz ([])) 9 1, blk g14 [.slice Aq rq.length cq, .int .i64 (fq : Int), .int .i64 (nq : Int)] 97, row Aq rq.length cq (cz rq) 9 1, blk g12 [.slice none 0 0] 95, row none 0 0 (cz ([])) 9 1] := HS.join (F := [blk g10 [.slice Aa (([] ++ ls).length) ca] 95, row Aa (([] ++ ls).length) ca (cz ([] ++ ls)) 9 1]) (G := [row Ac os.length cc (cz os) 9 1, blk g10 [.slice Aa 0 ca] 95, row Aa 0 ca (cz ([])) 9 1]) H_
      clear H_
      refine qc (f := 64) (args := #[.pointer (some ⟨g12, 0, none⟩), .slice Ac os.length cc]) (by kernel_rfl) (R_call #[.pointer (some ⟨g12, 0, none⟩), .slice Ac os.length cc] Try.func64 (by kernel_rfl) (by kernel_rfl) (by kernel_rfl)) ?_
      replace HS : St W (owns []) W18 [blk g12 [.slice none 0 0] 95, row none 0 0 (cz ([])) 9 1, row Ac os.length cc (cz os) 9 1, blk g10 [.slice Aa 0 ca] 95, row Aa 0 ca (cz ([])) 9 1, blk g14 [.slice Aq rq.length cq, .int .i64 (fq : Int), .int .i64 (nq : Int)] 97, row Aq rq.length cq (cz rq) 9 1] := HS.perm (perm_ [5, 6, 0, 1, 2, 3, 4] (by kernel_rfl) rfl)
      have hox : os.length = ls.length := by rw [hos]; simp
      have hrx : RdF (owns [blk g12 [.slice none 0 0] 95, row none 0 0 (cz ([])) 9 1]) W18 Ac (cz (os)) := RdF.of_row (F := [blk g12 [.slice none 0 0] 95, row none 0 0 (cz ([])) 9 1]) (L := [row Ac os.length cc (cz os) 9 1, blk g10 [.slice Aa 0 ca] 95, row Aa 0 ca (cz ([])) 9 1, blk g14 [.slice Aq rq.length cq, .int .i64 (fq : Int), .int .i64 (nq : Int)] 97, row Aq rq.length cq (cz rq) 9 1]) (i := 0) (n := (os).length) (c := cc) (t := 9) (z := 1) HS rfl
      have hoy : (os).length ≤ 1099511627776 := by omega
      refine (Spush g12 none Ac 0 cc [] (os) W18 (owns [blk g12 [.slice none 0 0] 95, row none 0 0 (cz ([])) 9 1]) (St.focus (F := [blk g12 [.slice none 0 0] 95, row none 0 0 (cz ([])) 9 1]) HS) hrx (Nat.zero_le _) hoy).mono ?_
      rintro e W19 ⟨Ab, cb, rfl, H_⟩
      refine ⟨_, rfl, ?_⟩
      replace HS : St W (owns []) W19 [blk g12 [.slice Ab (([] ++ os).length) cb] 95, row Ab (([] ++ os).length) cb (cz ([] ++ os)) 9 1, row Ac os.length cc (cz os) 9 1, blk g10 [.slice Aa 0 ca] 95, row Aa 0 ca (cz ([])) 9 1, blk g14 [.slice Aq rq.length cq, .int .i64 (fq : Int), .int .i64 (nq : Int)] 97, row Aq rq.length cq (cz rq) 9 1] := HS.join (F := [blk g12 [.slice none 0 0] 95, row none 0 0 (cz ([])) 9 1]) (G := [blk g12 [.slice Ab (([] ++ os).length) cb] 95, row Ab (([] ++ os).length) cb (cz ([] ++ os)) 9 1]) H_
      clear H_
      refine wpList_nil ?_
      refine x_then ?_
      refine wp_seq ?_
      refine wp_seq ?_
      refine wp_region_lit ?_
      refine ql (.int .i64 0) (by kernel_rfl) (by kernel_rfl) ?_
      refine wpList_nil ?_
      refine x_then ?_
      refine wp_block ?_
      replace HS : St W (owns []) W19 [blk g12 [.slice Ab (([] ++ os).length) cb] 95, row Ab (([] ++ os).length) cb (cz ([] ++ os)) 9 1, blk g14 [.slice Aq rq.length cq, .int .i64 (fq : Int), .int .i64 (nq : Int)] 97, row Aq rq.length cq (cz rq) 9 1, blk g10 [.slice Aa 0 ca] 95, row Aa 0 ca (cz ([])) 9 1] := St.tail (F := [row Ac os.length cc (cz os) 9 1]) (HS.perm (perm_ [2, 0, 1, 5, 6, 3, 4] (by kernel_rfl) rfl))
      refine wp_loop_ghost (fun kq a' w' => ∃ (J20 : Nat → Value) (i : Int) (Ab_ : Option Addr) (cb_ : Nat) (xb : List ByteArray) (Aq_ : Option Addr) (cq_ : Nat) (fq_ : Nat) (nq_ : Nat) (rq_ : List ByteArray) (xq : List ByteArray) , a' = Fr ((.slice A ls.length c) :: undef :: ((J20 2)) :: (.int .i64 j) :: (.pointer (some ⟨g10, 0, none⟩)) :: (.pointer (some ⟨g12, 0, none⟩)) :: (.pointer (some ⟨g14, 0, none⟩)) :: (.int .i64 i) :: ((J20 8)) :: ((J20 9)) :: ((J20 10)) :: ((J20 11)) :: undef :: undef :: undef :: undef :: undef :: undef :: undef :: undef :: undef :: undef :: undef :: (.slice A ls.length c) :: (.int .i64 (ls.length : Int)) :: (.bool false) :: undef :: (.int .i64 j) :: (.slice A ls.length c) :: (.int .i64 (ls.length : Int)) :: (.bool false) :: ((J3 31)) :: ((J3 32)) :: ((J3 33)) :: ((J3 34)) :: ((J3 35)) :: ((J3 36)) :: ((J3 37)) :: ((J3 38)) :: ((J3 39)) :: (.slice A ls.length c) :: (.tuple #[]) :: (.slice A ls.length c) :: (.tuple #[]) :: (.slice Ac os.length cc) :: (.tuple #[]) :: ((J20 46)) :: ((J20 47)) :: ((J20 48)) :: ((J20 49)) :: ((J20 50)) :: ((J20 51)) :: ((J20 52)) :: ((J20 53)) :: ((J20 54)) :: ((J20 55)) :: ((J20 56)) :: ((J20 57)) :: ((J20 58)) :: ((J20 59)) :: ((J20 60)) :: ((J20 61)) :: ((J20 62)) :: ((J20 63)) :: ((J20 64)) :: ((J20 65)) :: ((J20 66)) :: ((J20 67)) :: ((J20 68)) :: ((J20 69)) :: ((J20 70)) :: ((J20 71)) :: ((J20 72)) :: ((J20 73)) :: ((J20 74)) :: ((J20 75)) :: ((J20 76)) :: ((J20 77)) :: ((J20 78)) :: ((J20 79)) :: ((J20 80)) :: ((J20 81)) :: undef :: undef :: undef :: undef :: undef :: undef :: undef :: undef :: undef :: undef :: undef :: undef :: undef :: undef :: undef :: undef :: undef :: undef :: undef :: undef :: undef :: undef :: undef :: undef :: undef :: undef :: undef :: undef :: undef :: undef :: undef :: undef :: undef :: undef :: undef :: undef :: undef :: undef :: undef :: undef :: undef :: undef :: undef :: undef :: undef :: undef :: undef :: undef :: undef :: undef :: undef :: undef :: undef :: undef :: undef :: undef :: undef :: undef :: undef :: undef :: undef :: undef :: undef :: undef :: undef :: undef :: undef :: undef :: undef :: undef :: undef :: undef :: undef :: undef :: undef :: undef :: undef :: undef :: undef :: undef :: undef :: []) ∧ kq = (ls.length - (i).toNat) ∧ (0 ≤ i) ∧ (i ≤ ls.length) ∧ (xb = (ls.drop (i).toNat).reverse) ∧ (xq = ls.drop (i).toNat) ∧ (RQS rq_ fq_ nq_ xq) ∧ St W (owns []) w' [blk g12 [.slice Ab_ xb.length cb_] 95, row Ab_ xb.length cb_ (cz xb) 9 1, blk g14 [.slice Aq_ rq_.length cq_, .int .i64 (fq_ : Int), .int .i64 (nq_ : Int)] 97, row Aq_ rq_.length cq_ (cz rq_) 9 1, blk g10 [.slice Aa 0 ca] 95, row Aa 0 ca (cz ([])) 9 1]) (ls.length - ((0 : Int)).toNat) ⟨(fun k_ : Nat => List.getD ((.slice A ls.length c) :: undef :: ((J3 2)) :: (.int .i64 j) :: (.pointer (some ⟨g10, 0, none⟩)) :: (.pointer (some ⟨g12, 0, none⟩)) :: (.pointer (some ⟨g14, 0, none⟩)) :: (.int .i64 0) :: undef :: undef :: undef :: undef :: undef :: undef :: undef :: undef :: undef :: undef :: undef :: undef :: undef :: undef :: undef :: (.slice A ls.length c) :: (.int .i64 (ls.length : Int)) :: (.bool false) :: undef :: (.int .i64 j) :: (.slice A ls.length c) :: (.int .i64 (ls.length : Int)) :: (.bool false) :: ((J3 31)) :: ((J3 32)) :: ((J3 33)) :: ((J3 34)) :: ((J3 35)) :: ((J3 36)) :: ((J3 37)) :: ((J3 38)) :: ((J3 39)) :: (.slice A ls.length c) :: (.tuple #[]) :: (.slice A ls.length c) :: (.tuple #[]) :: (.slice Ac os.length cc) :: (.tuple #[]) :: undef :: undef :: undef :: undef :: undef :: undef :: undef :: undef :: undef :: undef :: undef :: undef :: undef :: undef :: undef :: undef :: undef :: undef :: undef :: undef :: undef :: undef :: undef :: undef :: undef :: undef :: undef :: undef :: undef :: undef :: undef :: undef :: undef :: undef :: undef :: undef :: undef :: undef :: undef :: undef :: undef :: undef :: undef :: undef :: undef :: undef :: undef :: undef :: undef :: undef :: undef :: undef :: undef :: undef :: undef :: undef :: undef :: undef :: undef :: undef :: undef :: undef :: undef :: undef :: undef :: undef :: undef :: undef :: undef :: undef :: undef :: undef :: undef :: undef :: undef :: undef :: undef :: undef :: undef :: undef :: undef :: undef :: undef :: undef :: undef :: undef :: undef :: undef :: undef :: undef :: undef :: undef :: undef :: undef :: undef :: undef :: undef :: undef :: undef :: undef :: undef :: undef :: undef :: undef :: undef :: undef :: undef :: undef :: undef :: undef :: undef :: undef :: undef :: undef :: undef :: undef :: undef :: []) k_ undef), (0 : Int), Ab, cb, ([] ++ os), Aq, cq, fq, nq, rq, ([] ++ ls), congrArg Fr (by kernel_rfl), rfl, by omega, by omega, by rw [hos]; simp, by simp, hrq, HS⟩ ?_
      clear HS
      intro kq21 a' W22 hrel
      obtain ⟨J20, i, Ab_, cb_, xb, Aq_, cq_, fq_, nq_, rq_, xq, rfl, hk, i0, i1, hb, hxq, hrq, HS⟩ := hrel
      refine wp_seq ?_
      refine wp_seq ?_
      refine wp_region_lit ?_
      refine ql (.int .i64 i) (by kernel_rfl) (by kernel_rfl) ?_
      refine ql (.slice A ls.length c) (by kernel_rfl) (by kernel_rfl) ?_
      refine ql (.int .i64 (ls.length : Int)) (by kernel_rfl) (by kernel_rfl) ?_
      by_cases hc23 : i < (ls.length : Int)
      · skip
        refine ql (.bool true) (by kernel_rfl) (R_bool (p := i < (ls.length : Int)) (by kernel_rfl) (hc23)) ?_
        refine wpList_nil ?_
        refine x_then ?_
        refine wp_cond_true (by kernel_rfl) ?_
        refine wp_skip ?_
        refine x_then ?_
        refine wp_seq ?_
        refine wp_block ?_
        refine wp_seq ?_
        refine wp_region_lit ?_
        refine qc (f := 67) (args := #[.pointer (some ⟨g12, 0, none⟩)]) (by kernel_rfl) (R_call #[.pointer (some ⟨g12, 0, none⟩)] Try.func67 (by kernel_rfl) (by kernel_rfl) (by kernel_rfl)) ?_
        have hbl : xb.length = ls.length - i.toNat := by rw [hb, List.length_reverse, List.length_drop]
        obtain ⟨q, hq⟩ : ∃ z_ : List ByteArray, z_ = xb.take (xb.length - 1) := ⟨_, rfl⟩
        have hrl := rev_last i0 (by omega) hb
        refine (Spop_some g12 _ cb_ xb _ _ (St.focus (F := [blk g12 [.slice Ab_ xb.length cb_] 95, row Ab_ xb.length cb_ (cz xb) 9 1]) HS) (by omega) (by omega) (St.rcap HS (i := 1) rfl).1 q hq).mono ?_
        rintro e W24 ⟨rfl, H_⟩
        refine ⟨_, rfl, ?_⟩
        replace HS : St W (owns []) W24 [blk g12 [.slice Ab_ q.length cb_] 95, row Ab_ q.length cb_ (cz q) 9 1, blk g14 [.slice Aq_ rq_.length cq_, .int .i64 (fq_ : Int), .int .i64 (nq_ : Int)] 97, row Aq_ rq_.length cq_ (cz rq_) 9 1, blk g10 [.slice Aa 0 ca] 95, row Aa 0 ca (cz ([])) 9 1] := HS.join (F := [blk g12 [.slice Ab_ xb.length cb_] 95, row Ab_ xb.length cb_ (cz xb) 9 1]) (G := [blk g12 [.slice Ab_ q.length cb_] 95, row Ab_ q.length cb_ (cz q) 9 1]) H_
        clear H_
        refine ql (.tuple #[.string (rdS xb ((xb.length : Int) - 1)), .bool true]) (by kernel_rfl) (by kernel_rfl) ?_
        refine ql (.string (rdS xb ((xb.length : Int) - 1))) (by kernel_rfl) (by kernel_rfl) ?_
        refine ql (.bool true) (by kernel_rfl) (by kernel_rfl) ?_
        refine ql (.string (rdS xb ((xb.length : Int) - 1))) (by kernel_rfl) (by kernel_rfl) ?_
        refine ql (.bool true) (by kernel_rfl) (by kernel_rfl) ?_
        refine wpList_nil ?_
        refine x_then ?_
        refine wp_seq ?_
        refine wp_region_lit ?_
        refine qc (f := 68) (args := #[.pointer (some ⟨g14, 0, none⟩)]) (by kernel_rfl) (R_call #[.pointer (some ⟨g14, 0, none⟩)] Try.func68 (by kernel_rfl) (by kernel_rfl) (by kernel_rfl)) ?_
        replace HS : St W (owns []) W24 [blk g14 [.slice Aq_ rq_.length cq_, .int .i64 (fq_ : Int), .int .i64 (nq_ : Int)] 97, row Aq_ rq_.length cq_ (cz rq_) 9 1, blk g12 [.slice Ab_ q.length cb_] 95, row Ab_ q.length cb_ (cz q) 9 1, blk g10 [.slice Aa 0 ca] 95, row Aa 0 ca (cz ([])) 9 1] := HS.perm (perm_ [2, 3, 0, 1, 4, 5] (by kernel_rfl) rfl)
        have hql : xq.length = ls.length - i.toNat := by rw [hxq, List.length_drop]
        have hrd := rdS_drop (l := ls) i0 (by omega)
        rw [← hxq] at hrd
        refine (qpopS_some g14 97 [] _ cq_ fq_ nq_ rq_ xq _ _ (St.focus (F := [blk g14 [.slice Aq_ rq_.length cq_, .int .i64 (fq_ : Int), .int .i64 (nq_ : Int)] 97, row Aq_ rq_.length cq_ (cz rq_) 9 1]) HS) hrq (by omega)).mono ?_
        rintro e W25 ⟨A8, c8, f8, r8, rfl, H_, hr8⟩
        refine ⟨_, rfl, ?_⟩
        replace HS : St W (owns []) W25 [blk g14 [.slice A8 r8.length c8, .int .i64 (f8 : Int), .int .i64 ((nq_ - 1 : Nat) : Int)] 97, row A8 r8.length c8 (cz r8) 9 1, blk g12 [.slice Ab_ q.length cb_] 95, row Ab_ q.length cb_ (cz q) 9 1, blk g10 [.slice Aa 0 ca] 95, row Aa 0 ca (cz ([])) 9 1] := HS.join (F := [blk g14 [.slice Aq_ rq_.length cq_, .int .i64 (fq_ : Int), .int .i64 (nq_ : Int)] 97, row Aq_ rq_.length cq_ (cz rq_) 9 1]) (G := [blk g14 [.slice A8 r8.length c8, .int .i64 (f8 : Int), .int .i64 ((nq_ - 1 : Nat) : Int)] 97, row A8 r8.length c8 (cz r8) 9 1]) H_
        clear H_
        refine ql (.tuple #[.string (rdS xq 0), .bool true]) (by kernel_rfl) (by kernel_rfl) ?_
        refine ql (.string (rdS xq 0)) (by kernel_rfl) (by kernel_rfl) ?_
        refine ql (.bool true) (by kernel_rfl) (by kernel_rfl) ?_
        refine ql (.string (rdS xq 0)) (by kernel_rfl) (by kernel_rfl) ?_
        refine ql (.bool true) (by kernel_rfl) (by kernel_rfl) ?_
        refine wpList_nil ?_
        refine x_then ?_
        refine wp_seq ?_
        refine wp_region_lit ?_
        refine ql (.string (rdS xb ((xb.length : Int) - 1))) (by kernel_rfl) (by kernel_rfl) ?_
        refine ql (.slice A ls.length c) (by kernel_rfl) (by kernel_rfl) ?_
        refine ql (.int .i64 i) (by kernel_rfl) (by kernel_rfl) ?_
        obtain ⟨ad26, rfl⟩ := Rd.isSome_ hr (by rw [cz_len]; omega)
        refine ql (.pointer (some (ad26.add i.toNat))) (by kernel_rfl) (R_indexA1 (k := .i64) (p := ad26) (n := ls.length) (c := c) (i := i) (by kernel_rfl) (by kernel_rfl) Try.underlying93 (by kernel_rfl) (by omega) (by omega)) ?_
        refine ql (.string (rdS ls i)) (by kernel_rfl) (R_load (p := ad26.add i.toNat) (by kernel_rfl) (by kernel_rfl) (by kernel_rfl) (HS.old0 (hr.at_ (cz_rd (i := i) (by omega) (by omega))))) ?_
        refine ql (.bool false) (by kernel_rfl) (R_beq (b := (!((rdS xb ((xb.length : Int) - 1)).toList == (rdS ls i).toList))) (by kernel_rfl) (sne_f (hrl))) ?_
        refine ql (.bool false) (by kernel_rfl) (by kernel_rfl) ?_
        refine ql (.string (rdS xq 0)) (by kernel_rfl) (by kernel_rfl) ?_
        refine ql (.slice (some ad26) ls.length c) (by kernel_rfl) (by kernel_rfl) ?_
        refine ql (.int .i64 i) (by kernel_rfl) (by kernel_rfl) ?_
        refine ql (.pointer (some (ad26.add i.toNat))) (by kernel_rfl) (R_indexA1 (k := .i64) (p := ad26) (n := ls.length) (c := c) (i := i) (by kernel_rfl) (by kernel_rfl) Try.underlying93 (by kernel_rfl) (by omega) (by omega)) ?_
        refine ql (.string (rdS ls i)) (by kernel_rfl) (R_load (p := ad26.add i.toNat) (by kernel_rfl) (by kernel_rfl) (by kernel_rfl) (HS.old0 (hr.at_ (cz_rd (i := i) (by omega) (by omega))))) ?_
        refine ql (.bool false) (by kernel_rfl) (R_beq (b := (!((rdS xq 0).toList == (rdS ls i).toList))) (by kernel_rfl) (sne_f (hrd))) ?_
        refine ql (.bool false) (by kernel_rfl) (by kernel_rfl) ?_
        refine ql (.bool false) (by kernel_rfl) (by kernel_rfl) ?_
        refine ql (.bool true) (by kernel_rfl) (by kernel_rfl) ?_
        refine ql (.bool false) (by kernel_rfl) (by kernel_rfl) ?_
        refine ql (.bool false) (by kernel_rfl) (by kernel_rfl) ?_
        refine ql (.bool false) (by kernel_rfl) (by kernel_rfl) ?_
        refine ql (.bool true) (by kernel_rfl) (by kernel_rfl) ?_
        refine ql (.bool false) (by kernel_rfl) (by kernel_rfl) ?_
        refine ql (.bool false) (by kernel_rfl) (by kernel_rfl) ?_
        refine wpList_nil ?_
        refine x_then ?_
        refine wp_cond_false (by kernel_rfl) ?_
        refine wp_skip ?_
        refine x_inb ?_
        refine x_then ?_
        refine wp_region_lit ?_
        refine ql (.int .i64 i) (by kernel_rfl) (by kernel_rfl) ?_
        refine ql (.int .i64 (i + 1)) (by kernel_rfl) (R_int (by kernel_rfl) (w64 (by omega))) ?_
        refine ql (.int .i64 (i + 1)) (by kernel_rfl) (by kernel_rfl) ?_
        refine wpList_nil ?_
        replace HS : St W (owns []) W25 [blk g12 [.slice Ab_ q.length cb_] 95, row Ab_ q.length cb_ (cz q) 9 1, blk g14 [.slice A8 r8.length c8, .int .i64 (f8 : Int), .int .i64 ((nq_ - 1 : Nat) : Int)] 97, row A8 r8.length c8 (cz r8) 9 1, blk g10 [.slice Aa 0 ca] 95, row Aa 0 ca (cz ([])) 9 1] := St.tail (F := []) (HS.perm (perm_ [2, 3, 0, 1, 4, 5] (by kernel_rfl) rfl))
        refine x_then ?_
        exact ⟨ls.length - (i + 1).toNat, by omega, (fun k_ : Nat => List.getD ((.slice (some ad26) ls.length c) :: undef :: ((J20 2)) :: (.int .i64 j) :: (.pointer (some ⟨g10, 0, none⟩)) :: (.pointer (some ⟨g12, 0, none⟩)) :: (.pointer (some ⟨g14, 0, none⟩)) :: (.int .i64 (i + 1)) :: (.string (rdS xb ((xb.length : Int) - 1))) :: (.bool true) :: (.string (rdS xq 0)) :: (.bool true) :: undef :: undef :: undef :: undef :: undef :: undef :: undef :: undef :: undef :: undef :: undef :: (.slice (some ad26) ls.length c) :: (.int .i64 (ls.length : Int)) :: (.bool false) :: undef :: (.int .i64 j) :: (.slice (some ad26) ls.length c) :: (.int .i64 (ls.length : Int)) :: (.bool false) :: ((J3 31)) :: ((J3 32)) :: ((J3 33)) :: ((J3 34)) :: ((J3 35)) :: ((J3 36)) :: ((J3 37)) :: ((J3 38)) :: ((J3 39)) :: (.slice (some ad26) ls.length c) :: (.tuple #[]) :: (.slice (some ad26) ls.length c) :: (.tuple #[]) :: (.slice Ac os.length cc) :: (.tuple #[]) :: (.int .i64 i) :: (.slice (some ad26) ls.length c) :: (.int .i64 (ls.length : Int)) :: (.bool true) :: (.int .i64 i) :: (.int .i64 (i + 1)) :: (.tuple #[.string (rdS xb ((xb.length : Int) - 1)), .bool true]) :: (.tuple #[.string (rdS xb ((xb.length : Int) - 1)), .bool true]) :: (.string (rdS xb ((xb.length : Int) - 1))) :: (.bool true) :: (.tuple #[.string (rdS xq 0), .bool true]) :: (.tuple #[.string (rdS xq 0), .bool true]) :: (.string (rdS xq 0)) :: (.bool true) :: (.string (rdS xb ((xb.length : Int) - 1))) :: (.slice (some ad26) ls.length c) :: (.int .i64 i) :: (.pointer (some (ad26.add i.toNat))) :: (.string (rdS ls i)) :: (.bool false) :: (.bool false) :: (.string (rdS xq 0)) :: (.slice (some ad26) ls.length c) :: (.int .i64 i) :: (.pointer (some (ad26.add i.toNat))) :: (.string (rdS ls i)) :: (.bool false) :: (.bool false) :: (.bool false) :: (.bool true) :: (.bool false) :: (.bool false) :: (.bool false) :: (.bool true) :: (.bool false) :: (.bool false) :: undef :: undef :: undef :: undef :: undef :: undef :: undef :: undef :: undef :: undef :: undef :: undef :: undef :: undef :: undef :: undef :: undef :: undef :: undef :: undef :: undef :: undef :: undef :: undef :: undef :: undef :: undef :: undef :: undef :: undef :: undef :: undef :: undef :: undef :: undef :: undef :: undef :: undef :: undef :: undef :: undef :: undef :: undef :: undef :: undef :: undef :: undef :: undef :: undef :: undef :: undef :: undef :: undef :: undef :: undef :: undef :: undef :: undef :: undef :: undef :: undef :: undef :: undef :: undef :: undef :: undef :: undef :: undef :: undef :: undef :: undef :: undef :: undef :: undef :: undef :: undef :: undef :: undef :: undef :: undef :: undef :: []) k_ undef), i + 1, Ab_, cb_, q, A8, c8, f8, (nq_ - 1), r8, xq.tail, congrArg Fr (by kernel_rfl), rfl, by omega, by omega, rev_cut i0 (by omega) hb hq, by rw [hxq]; exact drop_one_ i0, hr8, HS⟩
      · skip
        refine ql (.bool false) (by kernel_rfl) (R_nbool (p := i < (ls.length : Int)) (by kernel_rfl) (hc23)) ?_
        refine wpList_nil ?_
        refine x_then ?_
        refine wp_cond_false (by kernel_rfl) ?_
        refine wp_exit ?_
        refine x_thenE ?_
        refine x_thenE ?_
        refine x_hit ?_
        refine x_then ?_
        refine wp_seq ?_
        refine wp_region_lit ?_
        refine ql (.pointer none) (by kernel_rfl) (by kernel_rfl) ?_
        refine wpList_nil ?_
        refine x_then ?_
        refine wp_seq ?_
        refine wp_region_lit ?_
        refine ql (.pointer none) (by kernel_rfl) (by kernel_rfl) ?_
        refine wpList_nil ?_
        refine x_then ?_
        refine wp_seq ?_
        refine wp_region_lit ?_
        refine ql (.pointer none) (by kernel_rfl) (by kernel_rfl) ?_
        refine wpList_nil ?_
        refine x_then ?_
        refine wp_seq ?_
        refine wp_region_lit ?_
        refine ql (.pointer none) (by kernel_rfl) (by kernel_rfl) ?_
        refine kl HS 1 [.int .i64 1] 3 1 (by kernel_rfl) (by kernel_rfl) rfl (by decide) ?_
        intro g27 W28 H_
        replace HS : St W (owns []) W28 [row (some ⟨g27, 0, none⟩) 1 1 (ci .i64 ([1])) 3 1, blk g12 [.slice Ab_ xb.length cb_] 95, row Ab_ xb.length cb_ (cz xb) 9 1, blk g14 [.slice Aq_ rq_.length cq_, .int .i64 (fq_ : Int), .int .i64 (nq_ : Int)] 97, row Aq_ rq_.length cq_ (cz rq_) 9 1, blk g10 [.slice Aa 0 ca] 95, row Aa 0 ca (cz ([])) 9 1] := H_.cast_ (by kernel_rfl)
        clear H_
        refine qc (f := 56) (args := #[.pointer none, .slice (some ⟨g27, 0, none⟩) 1 1]) (by kernel_rfl) (R_call #[.pointer none, .slice (some ⟨g27, 0, none⟩) 1 1] Try.func56 (by kernel_rfl) (by kernel_rfl) (by kernel_rfl)) ?_
        refine (nil_spush _ _ _ _).mono ?_
        rintro e W29 ⟨rfl, H_⟩
        refine ⟨_, rfl, ?_⟩
        replace HS : St W (owns []) W29 [row (some ⟨g27, 0, none⟩) 1 1 (ci .i64 ([1])) 3 1, blk g12 [.slice Ab_ xb.length cb_] 95, row Ab_ xb.length cb_ (cz xb) 9 1, blk g14 [.slice Aq_ rq_.length cq_, .int .i64 (fq_ : Int), .int .i64 (nq_ : Int)] 97, row Aq_ rq_.length cq_ (cz rq_) 9 1, blk g10 [.slice Aa 0 ca] 95, row Aa 0 ca (cz ([])) 9 1] := HS.join (F := []) (G := []) H_
        clear H_
        refine wpList_nil ?_
        refine x_then ?_
        refine wp_seq ?_
        refine wp_region_lit ?_
        refine ql (.pointer none) (by kernel_rfl) (by kernel_rfl) ?_
        refine kl HS 1 [.int .i64 1] 3 1 (by kernel_rfl) (by kernel_rfl) rfl (by decide) ?_
        intro g30 W31 H_
        replace HS : St W (owns []) W31 [row (some ⟨g30, 0, none⟩) 1 1 (ci .i64 ([1])) 3 1, row (some ⟨g27, 0, none⟩) 1 1 (ci .i64 ([1])) 3 1, blk g12 [.slice Ab_ xb.length cb_] 95, row Ab_ xb.length cb_ (cz xb) 9 1, blk g14 [.slice Aq_ rq_.length cq_, .int .i64 (fq_ : Int), .int .i64 (nq_ : Int)] 97, row Aq_ rq_.length cq_ (cz rq_) 9 1, blk g10 [.slice Aa 0 ca] 95, row Aa 0 ca (cz ([])) 9 1] := H_.cast_ (by kernel_rfl)
        clear H_
        refine qc (f := 36) (args := #[.pointer none, .slice (some ⟨g30, 0, none⟩) 1 1]) (by kernel_rfl) (R_call #[.pointer none, .slice (some ⟨g30, 0, none⟩) 1 1] Try.func36 (by kernel_rfl) (by kernel_rfl) (by kernel_rfl)) ?_
        refine (nil_qpush _ _ _ _).mono ?_
        rintro e W32 ⟨rfl, H_⟩
        refine ⟨_, rfl, ?_⟩
        replace HS : St W (owns []) W32 [row (some ⟨g30, 0, none⟩) 1 1 (ci .i64 ([1])) 3 1, row (some ⟨g27, 0, none⟩) 1 1 (ci .i64 ([1])) 3 1, blk g12 [.slice Ab_ xb.length cb_] 95, row Ab_ xb.length cb_ (cz xb) 9 1, blk g14 [.slice Aq_ rq_.length cq_, .int .i64 (fq_ : Int), .int .i64 (nq_ : Int)] 97, row Aq_ rq_.length cq_ (cz rq_) 9 1, blk g10 [.slice Aa 0 ca] 95, row Aa 0 ca (cz ([])) 9 1] := HS.join (F := []) (G := []) H_
        clear H_
        refine wpList_nil ?_
        refine x_then ?_
        refine wp_seq ?_
        refine wp_region_lit ?_
        refine ql (.pointer none) (by kernel_rfl) (by kernel_rfl) ?_
        refine qc (f := 58) (args := #[.pointer none]) (by kernel_rfl) (R_call #[.pointer none] Try.func58 (by kernel_rfl) (by kernel_rfl) (by kernel_rfl)) ?_
        refine (nil_pop _).mono ?_
        rintro e W33 ⟨rfl, H_⟩
        refine ⟨_, rfl, ?_⟩
        replace HS : St W (owns []) W33 [row (some ⟨g30, 0, none⟩) 1 1 (ci .i64 ([1])) 3 1, row (some ⟨g27, 0, none⟩) 1 1 (ci .i64 ([1])) 3 1, blk g12 [.slice Ab_ xb.length cb_] 95, row Ab_ xb.length cb_ (cz xb) 9 1, blk g14 [.slice Aq_ rq_.length cq_, .int .i64 (fq_ : Int), .int .i64 (nq_ : Int)] 97, row Aq_ rq_.length cq_ (cz rq_) 9 1, blk g10 [.slice Aa 0 ca] 95, row Aa 0 ca (cz ([])) 9 1] := HS.join (F := []) (G := []) H_
        clear H_
        refine ql (.tuple #[.int .i64 0, .bool false]) (by kernel_rfl) (by kernel_rfl) ?_
        refine ql (.int .i64 0) (by kernel_rfl) (by kernel_rfl) ?_
        refine ql (.bool false) (by kernel_rfl) (by kernel_rfl) ?_
        refine ql (.int .i64 0) (by kernel_rfl) (by kernel_rfl) ?_
        refine ql (.bool false) (by kernel_rfl) (by kernel_rfl) ?_
        refine wpList_nil ?_
        refine x_then ?_
        refine wp_seq ?_
        refine wp_region_lit ?_
        refine ql (.pointer none) (by kernel_rfl) (by kernel_rfl) ?_
        refine qc (f := 40) (args := #[.pointer none]) (by kernel_rfl) (R_call #[.pointer none] Try.func40 (by kernel_rfl) (by kernel_rfl) (by kernel_rfl)) ?_
        refine (nil_qpop _).mono ?_
        rintro e W34 ⟨rfl, H_⟩
        refine ⟨_, rfl, ?_⟩
        replace HS : St W (owns []) W34 [row (some ⟨g30, 0, none⟩) 1 1 (ci .i64 ([1])) 3 1, row (some ⟨g27, 0, none⟩) 1 1 (ci .i64 ([1])) 3 1, blk g12 [.slice Ab_ xb.length cb_] 95, row Ab_ xb.length cb_ (cz xb) 9 1, blk g14 [.slice Aq_ rq_.length cq_, .int .i64 (fq_ : Int), .int .i64 (nq_ : Int)] 97, row Aq_ rq_.length cq_ (cz rq_) 9 1, blk g10 [.slice Aa 0 ca] 95, row Aa 0 ca (cz ([])) 9 1] := HS.join (F := []) (G := []) H_
        clear H_
        refine ql (.tuple #[.int .i64 0, .bool false]) (by kernel_rfl) (by kernel_rfl) ?_
        refine ql (.int .i64 0) (by kernel_rfl) (by kernel_rfl) ?_
        refine ql (.bool false) (by kernel_rfl) (by kernel_rfl) ?_
        refine ql (.int .i64 0) (by kernel_rfl) (by kernel_rfl) ?_
        refine ql (.bool false) (by kernel_rfl) (by kernel_rfl) ?_
        refine wpList_nil ?_
        refine x_then ?_
        refine wp_seq ?_
        refine wp_region_lit ?_
        refine ql (.pointer none) (by kernel_rfl) (by kernel_rfl) ?_
        refine qc (f := 42) (args := #[.pointer none]) (by kernel_rfl) (R_call #[.pointer none] Try.func42 (by kernel_rfl) (by kernel_rfl) (by kernel_rfl)) ?_
        refine (nil_wpop _).mono ?_
        rintro e W35 ⟨rfl, H_⟩
        refine ⟨_, rfl, ?_⟩
        replace HS : St W (owns []) W35 [row (some ⟨g30, 0, none⟩) 1 1 (ci .i64 ([1])) 3 1, row (some ⟨g27, 0, none⟩) 1 1 (ci .i64 ([1])) 3 1, blk g12 [.slice Ab_ xb.length cb_] 95, row Ab_ xb.length cb_ (cz xb) 9 1, blk g14 [.slice Aq_ rq_.length cq_, .int .i64 (fq_ : Int), .int .i64 (nq_ : Int)] 97, row Aq_ rq_.length cq_ (cz rq_) 9 1, blk g10 [.slice Aa 0 ca] 95, row Aa 0 ca (cz ([])) 9 1] := HS.join (F := []) (G := []) H_
        clear H_
        refine ql (.tuple #[.int .i64 0, .bool false]) (by kernel_rfl) (by kernel_rfl) ?_
        refine ql (.int .i64 0) (by kernel_rfl) (by kernel_rfl) ?_
        refine ql (.bool false) (by kernel_rfl) (by kernel_rfl) ?_
        refine ql (.int .i64 0) (by kernel_rfl) (by kernel_rfl) ?_
        refine ql (.bool false) (by kernel_rfl) (by kernel_rfl) ?_
        refine wpList_nil ?_
        refine x_then ?_
        refine wp_seq ?_
        refine wp_region_lit ?_
        refine ql (.pointer none) (by kernel_rfl) (by kernel_rfl) ?_
        refine qc (f := 62) (args := #[.pointer none]) (by kernel_rfl) (R_call #[.pointer none] Try.func62 (by kernel_rfl) (by kernel_rfl) (by kernel_rfl)) ?_
        refine (nil_top _).mono ?_
        rintro e W36 ⟨rfl, H_⟩
        refine ⟨_, rfl, ?_⟩
        replace HS : St W (owns []) W36 [row (some ⟨g30, 0, none⟩) 1 1 (ci .i64 ([1])) 3 1, row (some ⟨g27, 0, none⟩) 1 1 (ci .i64 ([1])) 3 1, blk g12 [.slice Ab_ xb.length cb_] 95, row Ab_ xb.length cb_ (cz xb) 9 1, blk g14 [.slice Aq_ rq_.length cq_, .int .i64 (fq_ : Int), .int .i64 (nq_ : Int)] 97, row Aq_ rq_.length cq_ (cz rq_) 9 1, blk g10 [.slice Aa 0 ca] 95, row Aa 0 ca (cz ([])) 9 1] := HS.join (F := []) (G := []) H_
        clear H_
        refine ql (.tuple #[.int .i64 0, .bool false]) (by kernel_rfl) (by kernel_rfl) ?_
        refine ql (.int .i64 0) (by kernel_rfl) (by kernel_rfl) ?_
        refine ql (.bool false) (by kernel_rfl) (by kernel_rfl) ?_
        refine ql (.int .i64 0) (by kernel_rfl) (by kernel_rfl) ?_
        refine ql (.bool false) (by kernel_rfl) (by kernel_rfl) ?_
        refine wpList_nil ?_
        refine x_then ?_
        refine wp_seq ?_
        refine wp_region_lit ?_
        refine qc (f := 69) (args := #[.pointer (some ⟨g10, 0, none⟩)]) (by kernel_rfl) (R_call #[.pointer (some ⟨g10, 0, none⟩)] Try.func69 (by kernel_rfl) (by kernel_rfl) (by kernel_rfl)) ?_
        refine (Sslen _ _ _ (([] : List ByteArray)) _ (HS.cell (i := 6) (j := 0) rfl rfl)).mono ?_
        rintro e W37 ⟨rfl, H_⟩
        refine ⟨_, rfl, ?_⟩
        replace HS : St W (owns []) W37 [row (some ⟨g30, 0, none⟩) 1 1 (ci .i64 ([1])) 3 1, row (some ⟨g27, 0, none⟩) 1 1 (ci .i64 ([1])) 3 1, blk g12 [.slice Ab_ xb.length cb_] 95, row Ab_ xb.length cb_ (cz xb) 9 1, blk g14 [.slice Aq_ rq_.length cq_, .int .i64 (fq_ : Int), .int .i64 (nq_ : Int)] 97, row Aq_ rq_.length cq_ (cz rq_) 9 1, blk g10 [.slice Aa 0 ca] 95, row Aa 0 ca (cz ([])) 9 1] := HS.join (F := []) (G := []) H_
        clear H_
        refine ql (.bool true) (by kernel_rfl) (R_beq (b := (((([] : List ByteArray)).length : Int) == (0 : Int))) (by kernel_rfl) (beq_t (by simp))) ?_
        refine ql (.bool true) (by kernel_rfl) (by kernel_rfl) ?_
        refine qc (f := 69) (args := #[.pointer (some ⟨g12, 0, none⟩)]) (by kernel_rfl) (R_call #[.pointer (some ⟨g12, 0, none⟩)] Try.func69 (by kernel_rfl) (by kernel_rfl) (by kernel_rfl)) ?_
        refine (Sslen _ _ _ (xb) _ (HS.cell (i := 2) (j := 0) rfl rfl)).mono ?_
        rintro e W38 ⟨rfl, H_⟩
        refine ⟨_, rfl, ?_⟩
        replace HS : St W (owns []) W38 [row (some ⟨g30, 0, none⟩) 1 1 (ci .i64 ([1])) 3 1, row (some ⟨g27, 0, none⟩) 1 1 (ci .i64 ([1])) 3 1, blk g12 [.slice Ab_ xb.length cb_] 95, row Ab_ xb.length cb_ (cz xb) 9 1, blk g14 [.slice Aq_ rq_.length cq_, .int .i64 (fq_ : Int), .int .i64 (nq_ : Int)] 97, row Aq_ rq_.length cq_ (cz rq_) 9 1, blk g10 [.slice Aa 0 ca] 95, row Aa 0 ca (cz ([])) 9 1] := HS.join (F := []) (G := []) H_
        clear H_
        refine ql (.bool true) (by kernel_rfl) (R_beq (b := (((xb).length : Int) == (0 : Int))) (by kernel_rfl) (beq_t (by rw [hb, List.length_reverse, List.length_drop]; omega))) ?_
        refine ql (.bool true) (by kernel_rfl) (by kernel_rfl) ?_
        refine ql (.bool true) (by kernel_rfl) (by kernel_rfl) ?_
        refine qc (f := 70) (args := #[.pointer (some ⟨g14, 0, none⟩)]) (by kernel_rfl) (R_call #[.pointer (some ⟨g14, 0, none⟩)] Try.func70 (by kernel_rfl) (by kernel_rfl) (by kernel_rfl)) ?_
        refine (qlenS g14 nq_ _ (HS.cell (i := 4) (j := 2) rfl rfl)).mono ?_
        rintro e W39 ⟨rfl, H_⟩
        refine ⟨_, rfl, ?_⟩
        replace HS : St W (owns []) W39 [row (some ⟨g30, 0, none⟩) 1 1 (ci .i64 ([1])) 3 1, row (some ⟨g27, 0, none⟩) 1 1 (ci .i64 ([1])) 3 1, blk g12 [.slice Ab_ xb.length cb_] 95, row Ab_ xb.length cb_ (cz xb) 9 1, blk g14 [.slice Aq_ rq_.length cq_, .int .i64 (fq_ : Int), .int .i64 (nq_ : Int)] 97, row Aq_ rq_.length cq_ (cz rq_) 9 1, blk g10 [.slice Aa 0 ca] 95, row Aa 0 ca (cz ([])) 9 1] := HS.join (F := []) (G := []) H_
        clear H_
        refine ql (.bool true) (by kernel_rfl) (R_beq (b := ((nq_ : Int) == (0 : Int))) (by kernel_rfl) (beq_t (by have h9 := hrq.len; rw [hxq, List.length_drop] at h9; omega))) ?_
        refine ql (.bool true) (by kernel_rfl) (by kernel_rfl) ?_
        refine ql (.bool true) (by kernel_rfl) (by kernel_rfl) ?_
        refine ql (.bool false) (by kernel_rfl) (by kernel_rfl) ?_
        refine ql (.bool true) (by kernel_rfl) (by kernel_rfl) ?_
        refine ql (.bool true) (by kernel_rfl) (by kernel_rfl) ?_
        refine ql (.bool true) (by kernel_rfl) (by kernel_rfl) ?_
        refine ql (.bool false) (by kernel_rfl) (by kernel_rfl) ?_
        refine ql (.bool true) (by kernel_rfl) (by kernel_rfl) ?_
        refine ql (.bool true) (by kernel_rfl) (by kernel_rfl) ?_
        refine ql (.bool true) (by kernel_rfl) (by kernel_rfl) ?_
        refine ql (.bool false) (by kernel_rfl) (by kernel_rfl) ?_
        refine ql (.bool true) (by kernel_rfl) (by kernel_rfl) ?_
        refine ql (.bool true) (by kernel_rfl) (by kernel_rfl) ?_
        refine ql (.bool true) (by kernel_rfl) (by kernel_rfl) ?_
        refine ql (.bool false) (by kernel_rfl) (by kernel_rfl) ?_
        refine ql (.bool true) (by kernel_rfl) (by kernel_rfl) ?_
        refine ql (.bool true) (by kernel_rfl) (by kernel_rfl) ?_
        refine ql (.bool true) (by kernel_rfl) (by kernel_rfl) ?_
        refine ql (.pointer none) (by kernel_rfl) (by kernel_rfl) ?_
        refine qc (f := 38) (args := #[.pointer none, .int .i64 1]) (by kernel_rfl) (R_call #[.pointer none, .int .i64 1] Try.func38 (by kernel_rfl) (by kernel_rfl) (by kernel_rfl)) ?_
        refine (nil_wpush _).mono ?_
        rintro e W40 ⟨rfl, H_⟩
        refine ⟨_, rfl, ?_⟩
        replace HS : St W (owns []) W40 [row (some ⟨g30, 0, none⟩) 1 1 (ci .i64 ([1])) 3 1, row (some ⟨g27, 0, none⟩) 1 1 (ci .i64 ([1])) 3 1, blk g12 [.slice Ab_ xb.length cb_] 95, row Ab_ xb.length cb_ (cz xb) 9 1, blk g14 [.slice Aq_ rq_.length cq_, .int .i64 (fq_ : Int), .int .i64 (nq_ : Int)] 97, row Aq_ rq_.length cq_ (cz rq_) 9 1, blk g10 [.slice Aa 0 ca] 95, row Aa 0 ca (cz ([])) 9 1] := HS.join (F := []) (G := []) H_
        clear H_
        refine ql (.bool true) (by kernel_rfl) (by kernel_rfl) ?_
        refine ql (.bool true) (by kernel_rfl) (by kernel_rfl) ?_
        refine ql (.bool true) (by kernel_rfl) (by kernel_rfl) ?_
        refine ql (.pointer none) (by kernel_rfl) (by kernel_rfl) ?_
        refine qc (f := 63) (args := #[.pointer none]) (by kernel_rfl) (R_call #[.pointer none] Try.func63 (by kernel_rfl) (by kernel_rfl) (by kernel_rfl)) ?_
        refine (nil_slen _).mono ?_
        rintro e W41 ⟨rfl, H_⟩
        refine ⟨_, rfl, ?_⟩
        replace HS : St W (owns []) W41 [row (some ⟨g30, 0, none⟩) 1 1 (ci .i64 ([1])) 3 1, row (some ⟨g27, 0, none⟩) 1 1 (ci .i64 ([1])) 3 1, blk g12 [.slice Ab_ xb.length cb_] 95, row Ab_ xb.length cb_ (cz xb) 9 1, blk g14 [.slice Aq_ rq_.length cq_, .int .i64 (fq_ : Int), .int .i64 (nq_ : Int)] 97, row Aq_ rq_.length cq_ (cz rq_) 9 1, blk g10 [.slice Aa 0 ca] 95, row Aa 0 ca (cz ([])) 9 1] := HS.join (F := []) (G := []) H_
        clear H_
        refine ql (.bool true) (by kernel_rfl) (R_beq (b := ((0 : Int) == 0)) (by kernel_rfl) (by decide)) ?_
        refine ql (.bool true) (by kernel_rfl) (by kernel_rfl) ?_
        refine ql (.bool true) (by kernel_rfl) (by kernel_rfl) ?_
        refine ql (.pointer none) (by kernel_rfl) (by kernel_rfl) ?_
        refine qc (f := 43) (args := #[.pointer none]) (by kernel_rfl) (R_call #[.pointer none] Try.func43 (by kernel_rfl) (by kernel_rfl) (by kernel_rfl)) ?_
        refine (nil_qlen _).mono ?_
        rintro e W42 ⟨rfl, H_⟩
        refine ⟨_, rfl, ?_⟩
        replace HS : St W (owns []) W42 [row (some ⟨g30, 0, none⟩) 1 1 (ci .i64 ([1])) 3 1, row (some ⟨g27, 0, none⟩) 1 1 (ci .i64 ([1])) 3 1, blk g12 [.slice Ab_ xb.length cb_] 95, row Ab_ xb.length cb_ (cz xb) 9 1, blk g14 [.slice Aq_ rq_.length cq_, .int .i64 (fq_ : Int), .int .i64 (nq_ : Int)] 97, row Aq_ rq_.length cq_ (cz rq_) 9 1, blk g10 [.slice Aa 0 ca] 95, row Aa 0 ca (cz ([])) 9 1] := HS.join (F := []) (G := []) H_
        clear H_
        refine ql (.bool true) (by kernel_rfl) (R_beq (b := ((0 : Int) == 0)) (by kernel_rfl) (by decide)) ?_
        refine ql (.bool true) (by kernel_rfl) (by kernel_rfl) ?_
        refine ql (.bool true) (by kernel_rfl) (by kernel_rfl) ?_
        refine ql (.pointer none) (by kernel_rfl) (by kernel_rfl) ?_
        refine qc (f := 44) (args := #[.pointer none]) (by kernel_rfl) (R_call #[.pointer none] Try.func44 (by kernel_rfl) (by kernel_rfl) (by kernel_rfl)) ?_
        refine (nil_wlen _).mono ?_
        rintro e W43 ⟨rfl, H_⟩
        refine ⟨_, rfl, ?_⟩
        replace HS : St W (owns []) W43 [row (some ⟨g30, 0, none⟩) 1 1 (ci .i64 ([1])) 3 1, row (some ⟨g27, 0, none⟩) 1 1 (ci .i64 ([1])) 3 1, blk g12 [.slice Ab_ xb.length cb_] 95, row Ab_ xb.length cb_ (cz xb) 9 1, blk g14 [.slice Aq_ rq_.length cq_, .int .i64 (fq_ : Int), .int .i64 (nq_ : Int)] 97, row Aq_ rq_.length cq_ (cz rq_) 9 1, blk g10 [.slice Aa 0 ca] 95, row Aa 0 ca (cz ([])) 9 1] := HS.join (F := []) (G := []) H_
        clear H_
        refine ql (.bool true) (by kernel_rfl) (R_beq (b := ((0 : Int) == 0)) (by kernel_rfl) (by decide)) ?_
        refine ql (.bool true) (by kernel_rfl) (by kernel_rfl) ?_
        refine ql (.bool true) (by kernel_rfl) (by kernel_rfl) ?_
        refine ql (.pointer none) (by kernel_rfl) (by kernel_rfl) ?_
        refine qc (f := 61) (args := #[.pointer none, .int .i64 0]) (by kernel_rfl) (R_call #[.pointer none, .int .i64 0] Try.func61 (by kernel_rfl) (by kernel_rfl) (by kernel_rfl)) ?_
        refine (nil_scut _).mono ?_
        rintro e W44 ⟨rfl, H_⟩
        refine ⟨_, rfl, ?_⟩
        replace HS : St W (owns []) W44 [row (some ⟨g30, 0, none⟩) 1 1 (ci .i64 ([1])) 3 1, row (some ⟨g27, 0, none⟩) 1 1 (ci .i64 ([1])) 3 1, blk g12 [.slice Ab_ xb.length cb_] 95, row Ab_ xb.length cb_ (cz xb) 9 1, blk g14 [.slice Aq_ rq_.length cq_, .int .i64 (fq_ : Int), .int .i64 (nq_ : Int)] 97, row Aq_ rq_.length cq_ (cz rq_) 9 1, blk g10 [.slice Aa 0 ca] 95, row Aa 0 ca (cz ([])) 9 1] := HS.join (F := []) (G := []) H_
        clear H_
        refine ql (.int .i64 0) (by kernel_rfl) (by kernel_rfl) ?_
        refine ql (.bool true) (by kernel_rfl) (R_beq (b := ((0 : Int) == 0)) (by kernel_rfl) (by decide)) ?_
        refine ql (.bool true) (by kernel_rfl) (by kernel_rfl) ?_
        refine ql (.bool true) (by kernel_rfl) (by kernel_rfl) ?_
        refine qc (f := 35) (args := #[]) (by kernel_rfl) (R_call #[] Try.func35 (by kernel_rfl) (by kernel_rfl) (by kernel_rfl)) ?_
        refine (awake07 _).mono ?_
        rintro e W45 ⟨rfl, H_⟩
        refine ⟨_, rfl, ?_⟩
        replace HS : St W (owns []) W45 [row (some ⟨g30, 0, none⟩) 1 1 (ci .i64 ([1])) 3 1, row (some ⟨g27, 0, none⟩) 1 1 (ci .i64 ([1])) 3 1, blk g12 [.slice Ab_ xb.length cb_] 95, row Ab_ xb.length cb_ (cz xb) 9 1, blk g14 [.slice Aq_ rq_.length cq_, .int .i64 (fq_ : Int), .int .i64 (nq_ : Int)] 97, row Aq_ rq_.length cq_ (cz rq_) 9 1, blk g10 [.slice Aa 0 ca] 95, row Aa 0 ca (cz ([])) 9 1] := HS.join (F := []) (G := []) H_
        clear H_
        refine ql (.bool true) (by kernel_rfl) (by kernel_rfl) ?_
        refine ql (.bool true) (by kernel_rfl) (by kernel_rfl) ?_
        refine wpList_nil ?_
        refine x_then ?_
        refine wp_ret ?_
        refine ret_ (.bool true) (by kernel_rfl) ?_
        exact ⟨rfl, HS.tail (F := [row (some ⟨g30, 0, none⟩) 1 1 (ci .i64 ([1])) 3 1, row (some ⟨g27, 0, none⟩) 1 1 (ci .i64 ([1])) 3 1, blk g12 [.slice Ab_ xb.length cb_] 95, row Ab_ xb.length cb_ (cz xb) 9 1, blk g14 [.slice Aq_ rq_.length cq_, .int .i64 (fq_ : Int), .int .i64 (nq_ : Int)] 97, row Aq_ rq_.length cq_ (cz rq_) 9 1, blk g10 [.slice Aa 0 ca] 95, row Aa 0 ca (cz ([])) 9 1])⟩

end Go.Proofs.Ytnabbhcagonlkaa.GStackTurns
