/- Written for this claim by gp.py, a program of this session's, over the kit's print. Lean checks it. -/
import Derived.Test.YtnabbhcagonlkaaGStackTurnsx0
import Derived.Test.YtnabbhcagonlkaaGStackTurnshx
import Derived.Test.YtnabbhcagonlkaaGStackTurnshhp1
import Derived.Test.YtnabbhcagonlkaaGStackTurnshhp2
import Derived.Test.YtnabbhcagonlkaaGStackTurnshhp4
import Derived.Test.YtnabbhcagonlkaaGStackTurnshw2a
import Derived.WalkKit
import Derived.StillTailTactics
import Derived.Deep.LoopGhost
import Derived.KernelRfl
import Derived.Deep.OwnRows
import Derived.Laws.OwnMore
import Derived.Laws.MakeOwn
import Derived.Maps.AppendAt
import Derived.OrdersHeld
namespace Go.Proofs.Ytnabbhcagonlkaa.GStackTurns
open Go.RowKit Go.Proofs.YtnabbhcagonlkaaW.PrintWords Go.Proofs.YtnabbhcagonlkaaW.PrintLast Go.Proofs.YtnabbhcagonlkaaW.PrintMore
attribute [local go_sem] max2_int min2_int max_two min_two max_three min_three max_four min_four   -- for this text's walks alone
set_option linter.unusedVariables false
set_option linter.unusedSimpArgs false

--import Derived.WalkKit
--import Derived.StillTailTactics
--import Derived.Deep.LoopGhost
--import Derived.KernelRfl
--import Derived.Deep.OwnRows
--import Derived.Laws.OwnMore
--import Derived.Laws.MakeOwn
--import Derived.Maps.AppendAt
--import Derived.OrdersHeld
attribute [local irreducible] wpStill wpList Code.wp TA

theorem R_sliceHn {P : Program} {a : Act} {W : World} {dst : Option Nat} {ty : TypeId} {ps : String} {af : Array Edge} {gd : Option (Nat × Bool)} (m : Nat) {t : TypeId} {x y : Operand} {A : Option Addr} {n c z e : Nat} {k : IntKind} {i : Int} (hm : i = m) (hx : a.eval x = .slice A n c) (hy : a.eval y = .int k i) (ht : P.underlying t = some (.slice e)) (hz : (P.info? e).map (·.size) = some z) (h0 : 0 ≤ i) (h1 : i ≤ c) :
    (execOp a.eval ⟨dst, .slice t x none (some y) none, ty, ps, af, gd⟩).run P W = .ok (.value (.slice A m c)) W := by
  subst hm
  exact R_sliceH (i := (m : Int)) hx hy ht hz h0 h1

theorem rd_takeI {W : World} {A : Option Addr} {k : IntKind} {xs : List Int} {m : Nat} (h : Rd W A (ci k xs)) : Rd W A (ci k (xs.take m)) := by
  intro j u hu
  refine h j u ?_
  have e : ci k xs = ci k (xs.take m) ++ ci k (xs.drop m) := by rw [← ci_app, List.take_append_drop]
  rw [e, List.getElem?_append_left (List.getElem?_eq_some_iff.1 hu).1]
  exact hu
theorem cut_step {xs q q2 os : List Int} (hq : q = xs.take q.length) (h0 : 0 < q.length) (hq2 : q2 = q.take (q.length - 1)) (ho : os = (xs.drop q.length).reverse) : q2.length = q.length - 1 ∧ q2 = xs.take q2.length ∧ os ++ [rdI q ((q.length : Int) - 1)] = (xs.drop q2.length).reverse := by
  have h1 : q.length ≤ xs.length := by have := congrArg List.length hq; rw [List.length_take] at this; omega
  have h2 : q2.length = q.length - 1 := by rw [hq2, List.length_take]; omega
  refine ⟨h2, ?_, ?_⟩
  · rw [h2, hq2]
    have : q.take (q.length - 1) = (xs.take q.length).take (q.length - 1) := by rw [← hq]
    rw [this, List.take_take, Nat.min_eq_left (by omega)]
  · have h3 : q.length - 1 < xs.length := by omega
    have e : rdI q ((q.length : Int) - 1) = xs[q.length - 1] := by
      have e1 : ((q.length : Int) - 1).toNat = q.length - 1 := by omega
      have e2 : q[q.length - 1]? = xs[q.length - 1]? := by
        have : q[q.length - 1]? = (xs.take q.length)[q.length - 1]? := by rw [← hq]
        rw [this, List.getElem?_take_of_lt (by omega)]
      unfold rdI
      rw [e1, List.getD_eq_getElem?_getD, e2, List.getElem?_eq_getElem h3]
      rfl
    rw [h2, List.drop_eq_getElem_cons h3, show q.length - 1 + 1 = q.length by omega, List.reverse_cons, ← ho, e]

set_option maxRecDepth 100000 in
set_option maxHeartbeats 1000000 in
theorem slen (g : Nat) (A : Option Addr) (c : Nat) (xs : List Int) (W : World) (hc : W.cell? ⟨g, 0, none⟩ = some (.slice A xs.length c)) : Calls Try.prog 63 #[.pointer (some ⟨g, 0, none⟩)] W fun e W' => e = .returned (.int .i64 (xs.length : Int)) ∧ St W (owns []) W' [] := by
  have HS : St W (owns []) W [] := St.start W _
  refine calls_enter [.pointer (some ⟨g, 0, none⟩), undef, undef, undef, undef, undef, undef, undef, undef, undef] Try.func63 rfl (by kernel_rfl) ?_
  refine wp_seq ?_
  refine wp_region_lit ?_
  refine ql (.int .i64 0) (by kernel_rfl) (by kernel_rfl) ?_
  refine wpList_nil ?_
  refine x_then ?_
  refine wp_seq ?_
  refine wp_seq ?_
  refine wp_region_lit ?_
  refine ql (.pointer (some ⟨g, 0, none⟩)) (by kernel_rfl) (by kernel_rfl) ?_
  refine ql (.bool false) (by kernel_rfl) (by kernel_rfl) ?_
  refine wpList_nil ?_
  refine x_then ?_
  refine wp_cond_false (by kernel_rfl) ?_
  refine wp_skip ?_
  refine x_then ?_
  refine wp_seq ?_
  refine wp_region_lit ?_
  refine ql (.pointer (some ⟨g, 0, none⟩)) (by kernel_rfl) (by kernel_rfl) ?_
  refine ql (.pointer (some ⟨g, 0, none⟩)) (by kernel_rfl) (by kernel_rfl) ?_
  refine ql (.pointer (some ⟨g, 0, none⟩)) (by kernel_rfl) (by kernel_rfl) ?_
  refine ql (.slice A xs.length c) (by kernel_rfl) (R_load (p := ⟨g, 0, none⟩) (by kernel_rfl) (by kernel_rfl) (by kernel_rfl) (HS.old0 hc)) ?_
  refine ql (.int .i64 (xs.length : Int)) (by kernel_rfl) (by kernel_rfl) ?_
  refine ql (.int .i64 (xs.length : Int)) (by kernel_rfl) (by kernel_rfl) ?_
  refine wpList_nil ?_
  refine x_then ?_
  refine wp_ret ?_
  refine ret_ (.int .i64 (xs.length : Int)) (by kernel_rfl) ?_
  exact ⟨rfl, HS⟩

set_option maxRecDepth 100000 in
set_option maxHeartbeats 1000000 in
theorem top_nil (g : Nat) (A : Option Addr) (c : Nat) (xs : List Int) (W : World) (hc : W.cell? ⟨g, 0, none⟩ = some (.slice A xs.length c)) (hr : Rd W A (ci .i64 xs)) (hn : xs.length = 0) (hl : xs.length ≤ 1099511627776) : Calls Try.prog 62 #[.pointer (some ⟨g, 0, none⟩)] W fun e W' => e = .returned (.tuple #[.int .i64 0, .bool false]) ∧ St W (owns []) W' [] := by
  have HS : St W (owns []) W [] := St.start W _
  refine calls_enter [.pointer (some ⟨g, 0, none⟩), undef, undef, undef, undef, undef, undef, undef, undef, undef, undef, undef, undef, undef, undef, undef, undef, undef, undef, undef, undef] Try.func62 rfl (by kernel_rfl) ?_
  refine wp_seq ?_
  refine wp_region_lit ?_
  refine ql (.int .i64 0) (by kernel_rfl) (by kernel_rfl) ?_
  refine ql (.bool false) (by kernel_rfl) (by kernel_rfl) ?_
  refine wpList_nil ?_
  refine x_then ?_
  refine wp_seq ?_
  refine wp_seq ?_
  refine wp_region_lit ?_
  refine ql (.pointer (some ⟨g, 0, none⟩)) (by kernel_rfl) (by kernel_rfl) ?_
  refine qc (f := 63) (args := #[.pointer (some ⟨g, 0, none⟩)]) (by kernel_rfl) (R_call #[.pointer (some ⟨g, 0, none⟩)] Try.func63 (by kernel_rfl) (by kernel_rfl) (by kernel_rfl)) ?_
  refine (slen _ _ _ xs _ (HS.old0 hc)).mono ?_
  rintro e W1 ⟨rfl, H_⟩
  refine ⟨_, rfl, ?_⟩
  replace HS : St W (owns []) W1 [] := HS.join (F := []) (G := []) H_
  clear H_
  refine ql (.bool true) (by kernel_rfl) (R_beq (b := ((xs.length : Int) == (0 : Int))) (by kernel_rfl) (beq_t (by omega))) ?_
  refine wpList_nil ?_
  refine x_then ?_
  refine wp_cond_true (by kernel_rfl) ?_
  refine wp_seq ?_
  refine wp_region_lit ?_
  refine ql (.int .i64 0) (by kernel_rfl) (by kernel_rfl) ?_
  refine wpList_nil ?_
  refine x_then ?_
  refine wp_seq ?_
  refine wp_region_lit ?_
  refine ql (.int .i64 0) (by kernel_rfl) (by kernel_rfl) ?_
  refine ql (.int .i64 0) (by kernel_rfl) (by kernel_rfl) ?_
  refine ql (.bool false) (by kernel_rfl) (by kernel_rfl) ?_
  refine wpList_nil ?_
  refine x_then ?_
  refine wp_ret ?_
  refine x_thenR ?_
  refine ret_ (.tuple #[.int .i64 0, .bool false]) (by kernel_rfl) ?_
  exact ⟨rfl, HS⟩

set_option maxRecDepth 100000 in
set_option maxHeartbeats 1000000 in
theorem top_some (g : Nat) (A : Option Addr) (c : Nat) (xs : List Int) (W : World) (hc : W.cell? ⟨g, 0, none⟩ = some (.slice A xs.length c)) (hr : Rd W A (ci .i64 xs)) (hn : 0 < xs.length) (hl : xs.length ≤ 1099511627776) : Calls Try.prog 62 #[.pointer (some ⟨g, 0, none⟩)] W fun e W' => e = .returned (.tuple #[.int .i64 (rdI xs ((xs.length : Int) - 1)), .bool true]) ∧ St W (owns []) W' [] := by
  have HS : St W (owns []) W [] := St.start W _
  refine calls_enter [.pointer (some ⟨g, 0, none⟩), undef, undef, undef, undef, undef, undef, undef, undef, undef, undef, undef, undef, undef, undef, undef, undef, undef, undef, undef, undef] Try.func62 rfl (by kernel_rfl) ?_
  refine wp_seq ?_
  refine wp_region_lit ?_
  refine ql (.int .i64 0) (by kernel_rfl) (by kernel_rfl) ?_
  refine ql (.bool false) (by kernel_rfl) (by kernel_rfl) ?_
  refine wpList_nil ?_
  refine x_then ?_
  refine wp_seq ?_
  refine wp_seq ?_
  refine wp_region_lit ?_
  refine ql (.pointer (some ⟨g, 0, none⟩)) (by kernel_rfl) (by kernel_rfl) ?_
  refine qc (f := 63) (args := #[.pointer (some ⟨g, 0, none⟩)]) (by kernel_rfl) (R_call #[.pointer (some ⟨g, 0, none⟩)] Try.func63 (by kernel_rfl) (by kernel_rfl) (by kernel_rfl)) ?_
  refine (slen _ _ _ xs _ (HS.old0 hc)).mono ?_
  rintro e W1 ⟨rfl, H_⟩
  refine ⟨_, rfl, ?_⟩
  replace HS : St W (owns []) W1 [] := HS.join (F := []) (G := []) H_
  clear H_
  refine ql (.bool false) (by kernel_rfl) (R_beq (b := ((xs.length : Int) == (0 : Int))) (by kernel_rfl) (beq_f (by omega))) ?_
  refine wpList_nil ?_
  refine x_then ?_
  refine wp_cond_false (by kernel_rfl) ?_
  refine wp_skip ?_
  refine x_then ?_
  refine wp_seq ?_
  refine rg_still HS 13 (by kernel_rfl) (by kernel_rfl) ?_
  intro W2 H_ HK_
  simp only [List.take_succ_cons, List.take_zero, List.drop_succ_cons, List.drop_zero]
  replace HS : St W (owns []) W2 [] := H_
  clear H_
  clear HK_
  refine qs (.pointer (some ⟨g, 0, none⟩)) (by kernel_rfl) (by kernel_rfl) ?_
  refine qs (.pointer (some ⟨g, 0, none⟩)) (by kernel_rfl) (by kernel_rfl) ?_
  refine qs (.pointer (some ⟨g, 0, none⟩)) (by kernel_rfl) (by kernel_rfl) ?_
  refine qs (.slice A xs.length c) (by kernel_rfl) (R_load (p := ⟨g, 0, none⟩) (by kernel_rfl) (by kernel_rfl) (by kernel_rfl) (HS.old0 hc)) ?_
  refine qs (.pointer (some ⟨g, 0, none⟩)) (by kernel_rfl) (by kernel_rfl) ?_
  refine qs (.pointer (some ⟨g, 0, none⟩)) (by kernel_rfl) (by kernel_rfl) ?_
  refine qs (.pointer (some ⟨g, 0, none⟩)) (by kernel_rfl) (by kernel_rfl) ?_
  refine qs (.slice A xs.length c) (by kernel_rfl) (R_load (p := ⟨g, 0, none⟩) (by kernel_rfl) (by kernel_rfl) (by kernel_rfl) (HS.old0 hc)) ?_
  refine qs (.int .i64 (xs.length : Int)) (by kernel_rfl) (by kernel_rfl) ?_
  refine qs (.int .i64 ((xs.length : Int) - 1)) (by kernel_rfl) (R_int (by kernel_rfl) (w64 (by omega))) ?_
  obtain ⟨ad3, rfl⟩ := Rd.isSome_ hr (by rw [ci_len]; omega)
  refine qs (.pointer (some (ad3.add ((xs.length : Int) - 1).toNat))) (by kernel_rfl) (R_indexA1 (k := .i64) (p := ad3) (n := xs.length) (c := c) (i := (xs.length : Int) - 1) (by kernel_rfl) (by kernel_rfl) Try.underlying49 (by kernel_rfl) (by omega) (by omega)) ?_
  refine qs (.int .i64 (rdI xs ((xs.length : Int) - 1))) (by kernel_rfl) (R_load (p := ad3.add ((xs.length : Int) - 1).toNat) (by kernel_rfl) (by kernel_rfl) (by kernel_rfl) (HS.old0 (hr.at_ (ci_rd (i := (xs.length : Int) - 1) (by omega) (by omega))))) ?_
  refine qs (.int .i64 (rdI xs ((xs.length : Int) - 1))) (by kernel_rfl) (by kernel_rfl) ?_
  refine wpStill_nil ?_
  refine ql (.bool true) (by kernel_rfl) (by kernel_rfl) ?_
  refine wpList_nil ?_
  refine x_then ?_
  refine wp_ret ?_
  refine ret_ (.tuple #[.int .i64 (rdI xs ((xs.length : Int) - 1)), .bool true]) (by kernel_rfl) ?_
  exact ⟨rfl, HS⟩

theorem take_set {xs : List Int} {i n : Nat} {v : Int} (h : n ≤ i) : (xs.set i v).take n = xs.take n := by
  rw [List.take_set, List.set_eq_of_length_le]
  rw [List.length_take]; omega

set_option maxRecDepth 100000 in
set_option maxHeartbeats 1000000 in
theorem pop_nil (g : Nat) (A : Option Addr) (c : Nat) (xs : List Int) (W : World) (M : Nat → Prop) (HS : St W M W [blk g [.slice A xs.length c] 88, row A xs.length c (ci .i64 xs) 3 1]) (hn : xs.length = 0) (hl : xs.length ≤ 1099511627776) : Calls Try.prog 58 #[.pointer (some ⟨g, 0, none⟩)] W fun e W' => e = .returned (.tuple #[.int .i64 0, .bool false]) ∧ St W M W' [blk g [.slice A xs.length c] 88, row A xs.length c (ci .i64 xs) 3 1] := by
  refine calls_enter [.pointer (some ⟨g, 0, none⟩), undef, undef, undef, undef, undef, undef, undef, undef, undef, undef, undef, undef, undef, undef, undef, undef, undef, undef, undef, undef, undef, undef, undef, undef, undef, undef, undef, undef, undef, undef, undef, undef, undef, undef, undef, undef, undef, undef, undef, undef] Try.func58 rfl (by kernel_rfl) ?_
  refine wp_seq ?_
  refine wp_region_lit ?_
  refine ql (.int .i64 0) (by kernel_rfl) (by kernel_rfl) ?_
  refine ql (.bool false) (by kernel_rfl) (by kernel_rfl) ?_
  refine wpList_nil ?_
  refine x_then ?_
  refine wp_seq ?_
  refine wp_region_lit ?_
  refine ql (.pointer (some ⟨g, 0, none⟩)) (by kernel_rfl) (by kernel_rfl) ?_
  refine qc (f := 62) (args := #[.pointer (some ⟨g, 0, none⟩)]) (by kernel_rfl) (R_call #[.pointer (some ⟨g, 0, none⟩)] Try.func62 (by kernel_rfl) (by kernel_rfl) (by kernel_rfl)) ?_
  refine (top_nil _ _ _ _ _ (HS.cell (i := 0) (j := 0) rfl rfl) (Rd.row HS (i := 1) rfl) (by omega) (by omega)).mono ?_
  rintro e W1 ⟨rfl, H_⟩
  refine ⟨_, rfl, ?_⟩
  replace HS : St W M W1 [blk g [.slice A xs.length c] 88, row A xs.length c (ci .i64 xs) 3 1] := HS.join (F := []) (G := []) H_
  clear H_
  refine ql (.tuple #[.int .i64 0, .bool false]) (by kernel_rfl) (by kernel_rfl) ?_
  refine ql (.int .i64 0) (by kernel_rfl) (by kernel_rfl) ?_
  refine ql (.bool false) (by kernel_rfl) (by kernel_rfl) ?_
  refine ql (.int .i64 0) (by kernel_rfl) (by kernel_rfl) ?_
  refine ql (.bool false) (by kernel_rfl) (by kernel_rfl) ?_
  refine wpList_nil ?_
  refine x_then ?_
  refine wp_seq ?_
  refine wp_seq ?_
  refine wp_region_lit ?_
  refine ql (.bool false) (by kernel_rfl) (by kernel_rfl) ?_
  refine wpList_nil ?_
  refine x_then ?_
  refine wp_cond_false (by kernel_rfl) ?_
  refine wp_skip ?_
  refine x_then ?_
  refine wp_seq ?_
  refine wp_region_lit ?_
  refine ql (.int .i64 0) (by kernel_rfl) (by kernel_rfl) ?_
  refine ql (.bool false) (by kernel_rfl) (by kernel_rfl) ?_
  refine ql (.int .i64 0) (by kernel_rfl) (by kernel_rfl) ?_
  refine ql (.bool false) (by kernel_rfl) (by kernel_rfl) ?_
  refine wpList_nil ?_
  refine x_then ?_
  refine wp_ret ?_
  refine ret_ (.tuple #[.int .i64 0, .bool false]) (by kernel_rfl) ?_
  exact ⟨rfl, HS⟩

set_option maxRecDepth 100000 in
set_option maxHeartbeats 1000000 in
theorem pop_some (g : Nat) (A : Option Addr) (c : Nat) (xs : List Int) (W : World) (M : Nat → Prop) (HS : St W M W [blk g [.slice A xs.length c] 88, row A xs.length c (ci .i64 xs) 3 1]) (hn : 0 < xs.length) (hl : xs.length ≤ 1099511627776) (hlc : xs.length ≤ c) (q : List Int) (hq : q = xs.take (xs.length - 1)) : Calls Try.prog 58 #[.pointer (some ⟨g, 0, none⟩)] W fun e W' => e = .returned (.tuple #[.int .i64 (rdI xs ((xs.length : Int) - 1)), .bool true]) ∧ St W M W' [blk g [.slice A q.length c] 88, row A q.length c (ci .i64 q) 3 1] := by
  have hqln : q.length = xs.length - 1 := by rw [hq, List.length_take]; omega
  have hcc : xs.length ≤ c := hlc
  refine calls_enter [.pointer (some ⟨g, 0, none⟩), undef, undef, undef, undef, undef, undef, undef, undef, undef, undef, undef, undef, undef, undef, undef, undef, undef, undef, undef, undef, undef, undef, undef, undef, undef, undef, undef, undef, undef, undef, undef, undef, undef, undef, undef, undef, undef, undef, undef, undef] Try.func58 rfl (by kernel_rfl) ?_
  refine wp_seq ?_
  refine wp_region_lit ?_
  refine ql (.int .i64 0) (by kernel_rfl) (by kernel_rfl) ?_
  refine ql (.bool false) (by kernel_rfl) (by kernel_rfl) ?_
  refine wpList_nil ?_
  refine x_then ?_
  refine wp_seq ?_
  refine wp_region_lit ?_
  refine ql (.pointer (some ⟨g, 0, none⟩)) (by kernel_rfl) (by kernel_rfl) ?_
  refine qc (f := 62) (args := #[.pointer (some ⟨g, 0, none⟩)]) (by kernel_rfl) (R_call #[.pointer (some ⟨g, 0, none⟩)] Try.func62 (by kernel_rfl) (by kernel_rfl) (by kernel_rfl)) ?_
  refine (top_some _ _ _ _ _ (HS.cell (i := 0) (j := 0) rfl rfl) (Rd.row HS (i := 1) rfl) (by omega) (by omega)).mono ?_
  rintro e W1 ⟨rfl, H_⟩
  refine ⟨_, rfl, ?_⟩
  replace HS : St W M W1 [blk g [.slice A xs.length c] 88, row A xs.length c (ci .i64 xs) 3 1] := HS.join (F := []) (G := []) H_
  clear H_
  refine ql (.tuple #[.int .i64 (rdI xs ((xs.length : Int) - 1)), .bool true]) (by kernel_rfl) (by kernel_rfl) ?_
  refine ql (.int .i64 (rdI xs ((xs.length : Int) - 1))) (by kernel_rfl) (by kernel_rfl) ?_
  refine ql (.bool true) (by kernel_rfl) (by kernel_rfl) ?_
  refine ql (.int .i64 (rdI xs ((xs.length : Int) - 1))) (by kernel_rfl) (by kernel_rfl) ?_
  refine ql (.bool true) (by kernel_rfl) (by kernel_rfl) ?_
  refine wpList_nil ?_
  refine x_then ?_
  refine wp_seq ?_
  refine wp_seq ?_
  refine wp_region_lit ?_
  refine ql (.bool true) (by kernel_rfl) (by kernel_rfl) ?_
  refine wpList_nil ?_
  refine x_then ?_
  refine wp_cond_true (by kernel_rfl) ?_
  refine wp_seq ?_
  refine wp_region_lit ?_
  refine ql (.int .i64 0) (by kernel_rfl) (by kernel_rfl) ?_
  refine wpList_nil ?_
  refine x_then ?_
  refine wp_seq ?_
  refine rg_still HS 12 (by kernel_rfl) (by kernel_rfl) ?_
  intro W2 H_ HK_
  simp only [List.take_succ_cons, List.take_zero, List.drop_succ_cons, List.drop_zero]
  replace HS : St W M W2 [blk g [.slice A xs.length c] 88, row A xs.length c (ci .i64 xs) 3 1] := H_
  clear H_
  clear HK_
  refine qs (.pointer (some ⟨g, 0, none⟩)) (by kernel_rfl) (by kernel_rfl) ?_
  refine qs (.pointer (some ⟨g, 0, none⟩)) (by kernel_rfl) (by kernel_rfl) ?_
  refine qs (.pointer (some ⟨g, 0, none⟩)) (by kernel_rfl) (by kernel_rfl) ?_
  refine qs (.slice A xs.length c) (by kernel_rfl) (R_load (p := ⟨g, 0, none⟩) (by kernel_rfl) (by kernel_rfl) (by kernel_rfl) (HS.cell (i := 0) (j := 0) rfl rfl)) ?_
  refine qs (.pointer (some ⟨g, 0, none⟩)) (by kernel_rfl) (by kernel_rfl) ?_
  refine qs (.pointer (some ⟨g, 0, none⟩)) (by kernel_rfl) (by kernel_rfl) ?_
  refine qs (.pointer (some ⟨g, 0, none⟩)) (by kernel_rfl) (by kernel_rfl) ?_
  refine qs (.slice A xs.length c) (by kernel_rfl) (R_load (p := ⟨g, 0, none⟩) (by kernel_rfl) (by kernel_rfl) (by kernel_rfl) (HS.cell (i := 0) (j := 0) rfl rfl)) ?_
  refine qs (.int .i64 (xs.length : Int)) (by kernel_rfl) (by kernel_rfl) ?_
  refine qs (.int .i64 ((xs.length : Int) - 1)) (by kernel_rfl) (R_int (by kernel_rfl) (w64 (by omega))) ?_
  refine qs (.int .i64 0) (by kernel_rfl) (by kernel_rfl) ?_
  obtain ⟨g3, rfl⟩ := St.rsome HS (i := 1) rfl (by omega)
  refine qs (.pointer (some ⟨g3, ((xs.length : Int) - 1).toNat, none⟩)) (by kernel_rfl) (R_index1 (k := .i64) (g := g3) (n := xs.length) (c := c) (i := (xs.length : Int) - 1) (by kernel_rfl) (by kernel_rfl) Try.underlying49 (by kernel_rfl) (by omega) (by omega)) ?_
  refine wpStill_nil ?_
  refine kr (v := .int .i64 0) HS 1 rfl (((xs.length : Int) - 1).toNat) [.int .i64 0] (by kernel_rfl) (by kernel_rfl) (by kernel_rfl) (by kernel_rfl) (by kernel_rfl) (one_ (by kernel_rfl)) (by rw [ci_len]; first | omega | (simp only [List.length_singleton]; omega)) rfl ?_
  intro W4 H_
  obtain ⟨xs5, xs5_⟩ : ∃ z_ : List Int, z_ = (xs).set ((xs.length : Int) - 1).toNat 0 := ⟨_, rfl⟩
  replace HS : St W M W4 [blk g [.slice (some ⟨g3, 0, none⟩) xs.length c] 88, row (some ⟨g3, 0, none⟩) xs.length c (ci .i64 xs5) 3 1] := H_.cast_ (by rw [xs5_, ← ci_set]; rfl)
  clear H_
  have xs5l : xs5.length = xs.length := by rw [xs5_, List.length_set]; first | done | omega
  refine wpList_nil ?_
  refine x_then ?_
  refine rg_still HS 14 (by kernel_rfl) (by kernel_rfl) ?_
  intro W6 H_ HK_
  simp only [List.take_succ_cons, List.take_zero, List.drop_succ_cons, List.drop_zero]
  replace HS : St W M W6 [blk g [.slice (some ⟨g3, 0, none⟩) xs.length c] 88, row (some ⟨g3, 0, none⟩) xs.length c (ci .i64 xs5) 3 1] := H_
  clear H_
  clear HK_
  refine qs (.pointer (some ⟨g, 0, none⟩)) (by kernel_rfl) (by kernel_rfl) ?_
  refine qs (.pointer (some ⟨g, 0, none⟩)) (by kernel_rfl) (by kernel_rfl) ?_
  refine qs (.pointer (some ⟨g, 0, none⟩)) (by kernel_rfl) (by kernel_rfl) ?_
  refine qs (.pointer (some ⟨g, 0, none⟩)) (by kernel_rfl) (by kernel_rfl) ?_
  refine qs (.slice (some ⟨g3, 0, none⟩) xs.length c) (by kernel_rfl) (R_load (p := ⟨g, 0, none⟩) (by kernel_rfl) (by kernel_rfl) (by kernel_rfl) (HS.cell (i := 0) (j := 0) rfl rfl)) ?_
  refine qs (.pointer (some ⟨g, 0, none⟩)) (by kernel_rfl) (by kernel_rfl) ?_
  refine qs (.pointer (some ⟨g, 0, none⟩)) (by kernel_rfl) (by kernel_rfl) ?_
  refine qs (.pointer (some ⟨g, 0, none⟩)) (by kernel_rfl) (by kernel_rfl) ?_
  refine qs (.slice (some ⟨g3, 0, none⟩) xs.length c) (by kernel_rfl) (R_load (p := ⟨g, 0, none⟩) (by kernel_rfl) (by kernel_rfl) (by kernel_rfl) (HS.cell (i := 0) (j := 0) rfl rfl)) ?_
  refine qs (.int .i64 (xs.length : Int)) (by kernel_rfl) (by kernel_rfl) ?_
  refine qs (.int .i64 ((xs.length : Int) - 1)) (by kernel_rfl) (R_int (by kernel_rfl) (w64 (by omega))) ?_
  refine qs (.slice (some ⟨g3, 0, none⟩) q.length c) (by kernel_rfl) (R_sliceHn (z := 1) (e := 3) (k := .i64) (A := some ⟨g3, 0, none⟩) (n := xs.length) (c := c) (i := (xs.length : Int) - 1) q.length (by omega) (by kernel_rfl) (by kernel_rfl) Try.underlying49 (by kernel_rfl) (by omega) (by omega)) ?_
  refine qs (.pointer (some ⟨g, 0, none⟩)) (by kernel_rfl) (by kernel_rfl) ?_
  refine qs (.pointer (some ⟨g, 0, none⟩)) (by kernel_rfl) (by kernel_rfl) ?_
  refine wpStill_nil ?_
  refine ks (v := .slice (some ⟨g3, 0, none⟩) q.length c) HS 0 rfl (0) [.slice (some ⟨g3, 0, none⟩) q.length c] (by kernel_rfl) (by kernel_rfl) (by kernel_rfl) (by kernel_rfl) (by kernel_rfl) (one_ (by kernel_rfl)) (Nat.le_of_ble_eq_true rfl) rfl ?_
  intro W7 H_
  replace HS : St W M W7 [blk g [.slice (some ⟨g3, 0, none⟩) q.length c] 88, row (some ⟨g3, 0, none⟩) xs.length c (ci .i64 xs5) 3 1] := H_
  clear H_
  refine wpList_nil ?_
  refine x_then ?_
  refine wp_seq ?_
  refine wp_region_lit ?_
  refine ql (.int .i64 (rdI xs ((xs.length : Int) - 1))) (by kernel_rfl) (by kernel_rfl) ?_
  refine ql (.bool true) (by kernel_rfl) (by kernel_rfl) ?_
  refine ql (.int .i64 (rdI xs ((xs.length : Int) - 1))) (by kernel_rfl) (by kernel_rfl) ?_
  refine ql (.bool true) (by kernel_rfl) (by kernel_rfl) ?_
  refine wpList_nil ?_
  refine x_then ?_
  refine wp_ret ?_
  refine ret_ (.tuple #[.int .i64 (rdI xs ((xs.length : Int) - 1)), .bool true]) (by kernel_rfl) ?_
  obtain ⟨xs8, xs8_⟩ : ∃ z_ : List Int, z_ = (xs5).take (q.length) := ⟨_, rfl⟩
  have xs8l : xs8.length = q.length := by rw [xs8_, List.length_take]; omega
  replace HS : St W M W7 [blk g [.slice (some ⟨g3, 0, none⟩) q.length c] 88, row (some ⟨g3, 0, none⟩) xs8.length c (ci .i64 xs8) 3 1] := HS.cutRow (i := 1) rfl xs8.length _ (by omega) (by rw [xs8l, ci_take, xs8_])
  obtain rfl : q = xs8 := by rw [xs8_, xs5_, take_set (by omega), hqln]; exact hq
  exact ⟨rfl, HS⟩

set_option maxRecDepth 100000 in
set_option maxHeartbeats 1000000 in
theorem push_calls (g : Nat) (A B : Option Addr) (c d : Nat) (xs ys : List Int) (W : World) (M : Nat → Prop) (HS : St W M W [blk g [.slice A xs.length c] 88, row A xs.length c (ci .i64 xs) 3 1, row B ys.length d (ci .i64 ys) 3 1]) (hl : xs.length ≤ 1099511627776) (hm : ys.length ≤ 1099511627776) : Calls Try.prog 56 #[.pointer (some ⟨g, 0, none⟩), .slice B ys.length d] W fun e W' => ∃ A' c', e = .returned (.tuple #[]) ∧ St W M W' [blk g [.slice A' ((xs ++ ys).length) c'] 88, row A' ((xs ++ ys).length) c' (ci .i64 (xs ++ ys)) 3 1] := by
  refine calls_enter [.pointer (some ⟨g, 0, none⟩), .slice B ys.length d, undef, undef, undef, undef, undef, undef, undef, undef, undef, undef, undef, undef, undef] Try.func56 rfl (by kernel_rfl) ?_
  refine wp_seq ?_
  refine wp_region_lit ?_
  refine ql (.pointer (some ⟨g, 0, none⟩)) (by kernel_rfl) (by kernel_rfl) ?_
  refine ql (.bool true) (by kernel_rfl) (by kernel_rfl) ?_
  refine wpList_nil ?_
  refine x_then ?_
  refine wp_cond_true (by kernel_rfl) ?_
  refine wp_region_lit ?_
  refine ql (.pointer (some ⟨g, 0, none⟩)) (by kernel_rfl) (by kernel_rfl) ?_
  refine ql (.pointer (some ⟨g, 0, none⟩)) (by kernel_rfl) (by kernel_rfl) ?_
  refine ql (.pointer (some ⟨g, 0, none⟩)) (by kernel_rfl) (by kernel_rfl) ?_
  refine ql (.pointer (some ⟨g, 0, none⟩)) (by kernel_rfl) (by kernel_rfl) ?_
  refine ql (.slice A xs.length c) (by kernel_rfl) (R_load (p := ⟨g, 0, none⟩) (by kernel_rfl) (by kernel_rfl) (by kernel_rfl) (HS.cell (i := 0) (j := 0) rfl rfl)) ?_
  refine ql (.slice B ys.length d) (by kernel_rfl) (by kernel_rfl) ?_
  obtain ⟨xs4, xs4_⟩ : ∃ z_ : List Int, z_ = xs ++ ys := ⟨_, rfl⟩
  have xs4l : xs4.length = xs.length + ys.length := by rw [xs4_, List.length_append] <;> (try simp only [List.length_cons, List.length_nil]) <;> omega
  refine ka1 HS 1 rfl (Src.of_row HS (i := 2) rfl ci_one) [.int .i64 0] 8 xs4.length (ci .i64 xs4) (by omega) (by rw [xs4_, ci_app]) (by kernel_rfl) (by kernel_rfl) (by kernel_rfl) Try.underlying49 (by kernel_rfl) (by kernel_rfl) (by kernel_rfl) (by kernel_rfl) (by decide) (by omega) (by omega) ?_
  intro A1 c2 W3 H_
  replace HS : St W M W3 [blk g [.slice A xs.length c] 88, row A1 xs4.length c2 (ci .i64 xs4) 3 1, row B ys.length d (ci .i64 ys) 3 1] := H_
  clear H_
  refine ql (.pointer (some ⟨g, 0, none⟩)) (by kernel_rfl) (by kernel_rfl) ?_
  refine ql (.pointer (some ⟨g, 0, none⟩)) (by kernel_rfl) (by kernel_rfl) ?_
  refine ks (v := .slice A1 xs4.length c2) HS 0 rfl (0) [.slice A1 xs4.length c2] (by kernel_rfl) (by kernel_rfl) (by kernel_rfl) (by kernel_rfl) (by kernel_rfl) (one_ (by kernel_rfl)) (Nat.le_of_ble_eq_true rfl) rfl ?_
  intro W5 H_
  replace HS : St W M W5 [blk g [.slice A1 xs4.length c2] 88, row A1 xs4.length c2 (ci .i64 xs4) 3 1, row B ys.length d (ci .i64 ys) 3 1] := H_
  clear H_
  refine wpList_nil ?_
  refine end_ (.tuple #[]) (by kernel_rfl) ?_
  replace HS : St W M W5 [blk g [.slice A1 xs4.length c2] 88, row A1 xs4.length c2 (ci .i64 xs4) 3 1] := St.tail (F := [row B ys.length d (ci .i64 ys) 3 1]) (HS.perm (perm_ [2, 0, 1] (by kernel_rfl) rfl))
  subst xs4_
  exact ⟨_, _, rfl, HS⟩

set_option maxRecDepth 100000 in
set_option maxHeartbeats 1000000 in
theorem rput (A : Option Addr) (c : Nat) (xs : List Int) (n : Int) (W : World) (hr : Rd W A (ci .i64 xs)) (hl : xs.length ≤ 1099511627776) : Calls Try.prog 37 #[.slice A xs.length c, .int .i64 n] W fun e W' => ∃ A' c', e = .returned (.slice A' (xs ++ [n]).length c') ∧ St W (owns []) W' [row A' (xs ++ [n]).length c' (ci .i64 (xs ++ [n])) 3 1] := by
  have HS : St W (owns []) W [] := St.start W _
  refine calls_enter [.slice A xs.length c, .int .i64 n, undef, undef, undef, undef, undef, undef, undef, undef, undef, undef, undef, undef] Try.func37 rfl (by kernel_rfl) ?_
  refine wp_seq ?_
  refine wp_region_lit ?_
  refine ql (.slice none 0 0) (by kernel_rfl) (by kernel_rfl) ?_
  refine wpList_nil ?_
  refine x_then ?_
  refine wp_seq ?_
  refine wp_region_lit ?_
  refine kl HS 0 [] 3 1 (by kernel_rfl) (by kernel_rfl) rfl (by decide) ?_
  intro g1 W2 H_
  replace HS : St W (owns []) W2 [row (some ⟨g1, 0, none⟩) 0 0 (ci .i64 ([])) 3 1] := H_.cast_ (by kernel_rfl)
  clear H_
  refine ql (.slice (some ⟨g1, 0, none⟩) 0 0) (by kernel_rfl) (by kernel_rfl) ?_
  refine wpList_nil ?_
  refine x_then ?_
  refine wp_seq ?_
  refine wp_region_lit ?_
  refine ql (.slice (some ⟨g1, 0, none⟩) 0 0) (by kernel_rfl) (by kernel_rfl) ?_
  refine ql (.slice A xs.length c) (by kernel_rfl) (by kernel_rfl) ?_
  obtain ⟨xs6, xs6_⟩ : ∃ z_ : List Int, z_ = ([]) ++ xs := ⟨_, rfl⟩
  have xs6l : xs6.length = 0 + xs.length := by rw [xs6_, List.length_append] <;> (try simp only [List.length_cons, List.length_nil]) <;> omega
  refine ka1 HS 0 rfl (Src.of_rd' (n := xs.length) (c := c) (z := 1) (hr.old0 HS) (by rw [ci_len]; omega) (by decide) ci_one) [.int .i64 0] 8 xs6.length (ci .i64 xs6) (by omega) (by rw [xs6_, ci_app]) (by kernel_rfl) (by kernel_rfl) (by kernel_rfl) Try.underlying49 (by kernel_rfl) (by kernel_rfl) (by kernel_rfl) (by kernel_rfl) (by decide) (by omega) (by omega) ?_
  intro A3 c4 W5 H_
  replace HS : St W (owns []) W5 [row A3 xs6.length c4 (ci .i64 xs6) 3 1] := H_
  clear H_
  refine ql (.slice A3 xs6.length c4) (by kernel_rfl) (by kernel_rfl) ?_
  refine wpList_nil ?_
  refine x_then ?_
  refine wp_seq ?_
  refine wp_region_lit ?_
  refine ql (.slice A3 xs6.length c4) (by kernel_rfl) (by kernel_rfl) ?_
  refine ql (.int .i64 n) (by kernel_rfl) (by kernel_rfl) ?_
  refine kl HS 1 [.int .i64 n] 3 1 (by kernel_rfl) (by kernel_rfl) rfl (by decide) ?_
  intro g7 W8 H_
  replace HS : St W (owns []) W8 [row (some ⟨g7, 0, none⟩) 1 1 (ci .i64 ([n])) 3 1, row A3 xs6.length c4 (ci .i64 xs6) 3 1] := H_.cast_ (by kernel_rfl)
  clear H_
  obtain ⟨xs12, xs12_⟩ : ∃ z_ : List Int, z_ = xs6 ++ ([n]) := ⟨_, rfl⟩
  have xs12l : xs12.length = xs6.length + 1 := by rw [xs12_, List.length_append] <;> (try simp only [List.length_cons, List.length_nil]) <;> omega
  refine ka1 HS 1 rfl (Src.of_row HS (i := 0) rfl ci_one) [.int .i64 0] 8 xs12.length (ci .i64 xs12) (by omega) (by rw [xs12_, ci_app]) (by kernel_rfl) (by kernel_rfl) (by kernel_rfl) Try.underlying49 (by kernel_rfl) (by kernel_rfl) (by kernel_rfl) (by kernel_rfl) (by decide) (by omega) (by omega) ?_
  intro A9 c10 W11 H_
  replace HS : St W (owns []) W11 [row (some ⟨g7, 0, none⟩) 1 1 (ci .i64 ([n])) 3 1, row A9 xs12.length c10 (ci .i64 xs12) 3 1] := H_
  clear H_
  refine ql (.slice A9 xs12.length c10) (by kernel_rfl) (by kernel_rfl) ?_
  refine wpList_nil ?_
  refine x_then ?_
  refine wp_ret ?_
  refine ret_ (.slice A9 xs12.length c10) (by kernel_rfl) ?_
  replace HS := HS.drop1
  obtain rfl : xs12 = xs ++ [n] := by simp [xs12_, xs6_]
  exact ⟨_, _, rfl, HS⟩

set_option maxRecDepth 100000 in
set_option maxHeartbeats 1000000 in
theorem last_nil (A : Option Addr) (c : Nat) (xs : List Int) (W : World) (hr : Rd W A (ci .i64 xs)) (hn : xs.length = 0) (hl : xs.length ≤ 1099511627776) (hlc : xs.length ≤ c) : Calls Try.prog 57 #[.slice A xs.length c] W fun e W' => e = .returned (.tuple #[.slice A xs.length c, .int .i64 0, .bool false]) ∧ St W (owns []) W' [] := by
  have HS : St W (owns []) W [] := St.start W _
  refine calls_enter [.slice A xs.length c, undef, undef, undef, undef, undef, undef, undef, undef, undef, undef, undef, undef, undef, undef, undef, undef, undef, undef, undef] Try.func57 rfl (by kernel_rfl) ?_
  refine wp_seq ?_
  refine wp_region_lit ?_
  refine ql (.slice none 0 0) (by kernel_rfl) (by kernel_rfl) ?_
  refine ql (.int .i64 0) (by kernel_rfl) (by kernel_rfl) ?_
  refine ql (.bool false) (by kernel_rfl) (by kernel_rfl) ?_
  refine wpList_nil ?_
  refine x_then ?_
  refine wp_seq ?_
  refine wp_seq ?_
  refine wp_region_lit ?_
  refine ql (.slice A xs.length c) (by kernel_rfl) (by kernel_rfl) ?_
  refine ql (.int .i64 (xs.length : Int)) (by kernel_rfl) (by kernel_rfl) ?_
  refine ql (.bool true) (by kernel_rfl) (R_beq (b := ((xs.length : Int) == (0 : Int))) (by kernel_rfl) (beq_t (by omega))) ?_
  refine wpList_nil ?_
  refine x_then ?_
  refine wp_cond_true (by kernel_rfl) ?_
  refine wp_seq ?_
  refine wp_region_lit ?_
  refine ql (.slice A xs.length c) (by kernel_rfl) (by kernel_rfl) ?_
  refine ql (.slice A xs.length c) (by kernel_rfl) (by kernel_rfl) ?_
  refine ql (.int .i64 0) (by kernel_rfl) (by kernel_rfl) ?_
  refine ql (.bool false) (by kernel_rfl) (by kernel_rfl) ?_
  refine wpList_nil ?_
  refine x_then ?_
  refine wp_ret ?_
  refine x_thenR ?_
  refine ret_ (.tuple #[.slice A xs.length c, .int .i64 0, .bool false]) (by kernel_rfl) ?_
  exact ⟨rfl, HS⟩

set_option maxRecDepth 100000 in
set_option maxHeartbeats 1000000 in
theorem last_some (A : Option Addr) (c : Nat) (xs : List Int) (W : World) (hr : Rd W A (ci .i64 xs)) (hn : 0 < xs.length) (hl : xs.length ≤ 1099511627776) (hlc : xs.length ≤ c) (q : List Int) (hq : q = xs.take (xs.length - 1)) : Calls Try.prog 57 #[.slice A xs.length c] W fun e W' => e = .returned (.tuple #[.slice A q.length c, .int .i64 (rdI xs ((xs.length : Int) - 1)), .bool true]) ∧ St W (owns []) W' [] := by
  have HS : St W (owns []) W [] := St.start W _
  have hqln : q.length = xs.length - 1 := by rw [hq, List.length_take]; omega
  refine calls_enter [.slice A xs.length c, undef, undef, undef, undef, undef, undef, undef, undef, undef, undef, undef, undef, undef, undef, undef, undef, undef, undef, undef] Try.func57 rfl (by kernel_rfl) ?_
  refine wp_seq ?_
  refine wp_region_lit ?_
  refine ql (.slice none 0 0) (by kernel_rfl) (by kernel_rfl) ?_
  refine ql (.int .i64 0) (by kernel_rfl) (by kernel_rfl) ?_
  refine ql (.bool false) (by kernel_rfl) (by kernel_rfl) ?_
  refine wpList_nil ?_
  refine x_then ?_
  refine wp_seq ?_
  refine wp_seq ?_
  refine wp_region_lit ?_
  refine ql (.slice A xs.length c) (by kernel_rfl) (by kernel_rfl) ?_
  refine ql (.int .i64 (xs.length : Int)) (by kernel_rfl) (by kernel_rfl) ?_
  refine ql (.bool false) (by kernel_rfl) (R_beq (b := ((xs.length : Int) == (0 : Int))) (by kernel_rfl) (beq_f (by omega))) ?_
  refine wpList_nil ?_
  refine x_then ?_
  refine wp_cond_false (by kernel_rfl) ?_
  refine wp_skip ?_
  refine x_then ?_
  refine wp_seq ?_
  refine rg_still HS 13 (by kernel_rfl) (by kernel_rfl) ?_
  intro W1 H_ HK_
  simp only [List.take_succ_cons, List.take_zero, List.drop_succ_cons, List.drop_zero]
  replace HS : St W (owns []) W1 [] := H_
  clear H_
  clear HK_
  refine qs (.slice A xs.length c) (by kernel_rfl) (by kernel_rfl) ?_
  refine qs (.slice A xs.length c) (by kernel_rfl) (by kernel_rfl) ?_
  refine qs (.int .i64 (xs.length : Int)) (by kernel_rfl) (by kernel_rfl) ?_
  refine qs (.int .i64 ((xs.length : Int) - 1)) (by kernel_rfl) (R_int (by kernel_rfl) (w64 (by omega))) ?_
  refine qs (.slice A q.length c) (by kernel_rfl) (R_sliceHn (z := 1) (e := 3) (k := .i64) (A := A) (n := xs.length) (c := c) (i := (xs.length : Int) - 1) q.length (by omega) (by kernel_rfl) (by kernel_rfl) Try.underlying49 (by kernel_rfl) (by omega) (by omega)) ?_
  refine qs (.slice A xs.length c) (by kernel_rfl) (by kernel_rfl) ?_
  refine qs (.slice A xs.length c) (by kernel_rfl) (by kernel_rfl) ?_
  refine qs (.int .i64 (xs.length : Int)) (by kernel_rfl) (by kernel_rfl) ?_
  refine qs (.int .i64 ((xs.length : Int) - 1)) (by kernel_rfl) (R_int (by kernel_rfl) (w64 (by omega))) ?_
  obtain ⟨ad2, rfl⟩ := Rd.isSome_ hr (by rw [ci_len]; omega)
  refine qs (.pointer (some (ad2.add ((xs.length : Int) - 1).toNat))) (by kernel_rfl) (R_indexA1 (k := .i64) (p := ad2) (n := xs.length) (c := c) (i := (xs.length : Int) - 1) (by kernel_rfl) (by kernel_rfl) Try.underlying49 (by kernel_rfl) (by omega) (by omega)) ?_
  refine qs (.int .i64 (rdI xs ((xs.length : Int) - 1))) (by kernel_rfl) (R_load (p := ad2.add ((xs.length : Int) - 1).toNat) (by kernel_rfl) (by kernel_rfl) (by kernel_rfl) (HS.old0 (hr.at_ (ci_rd (i := (xs.length : Int) - 1) (by omega) (by omega))))) ?_
  refine qs (.slice (some ad2) q.length c) (by kernel_rfl) (by kernel_rfl) ?_
  refine qs (.int .i64 (rdI xs ((xs.length : Int) - 1))) (by kernel_rfl) (by kernel_rfl) ?_
  refine wpStill_nil ?_
  refine ql (.bool true) (by kernel_rfl) (by kernel_rfl) ?_
  refine wpList_nil ?_
  refine x_then ?_
  refine wp_ret ?_
  refine ret_ (.tuple #[.slice (some ad2) q.length c, .int .i64 (rdI xs ((xs.length : Int) - 1)), .bool true]) (by kernel_rfl) ?_
  exact ⟨rfl, HS⟩

set_option maxRecDepth 100000 in
set_option maxHeartbeats 1000000 in
theorem rcut (A : Option Addr) (c : Nat) (xs : List Int) (left : Int) (W : World) (hr : Rd W A (ci .i64 xs)) (hl : xs.length ≤ 1099511627776) (hlc : xs.length ≤ c) : Calls Try.prog 59 #[.slice A xs.length c, .int .i64 left] W fun e W' => ∃ A' c', e = .returned (.tuple #[.slice A (xs.take (min xs.length left.toNat)).length c, .slice A' (xs.drop (min xs.length left.toNat)).reverse.length c']) ∧ St W (owns []) W' [row A' (xs.drop (min xs.length left.toNat)).reverse.length c' (ci .i64 (xs.drop (min xs.length left.toNat)).reverse) 3 1] := by
  have HS : St W (owns []) W [] := St.start W _
  refine calls_enter [.slice A xs.length c, .int .i64 left, undef, undef, undef, undef, undef, undef, undef, undef, undef, undef, undef, undef, undef, undef, undef, undef, undef, undef, undef, undef, undef, undef, undef, undef, undef, undef, undef, undef, undef, undef, undef] Try.func59 rfl (by kernel_rfl) ?_
  refine wp_seq ?_
  refine wp_region_lit ?_
  refine ql (.slice none 0 0) (by kernel_rfl) (by kernel_rfl) ?_
  refine ql (.slice none 0 0) (by kernel_rfl) (by kernel_rfl) ?_
  refine wpList_nil ?_
  refine x_then ?_
  refine wp_seq ?_
  refine wp_region_lit ?_
  refine kl HS 0 [] 3 1 (by kernel_rfl) (by kernel_rfl) rfl (by decide) ?_
  intro g1 W2 H_
  replace HS : St W (owns []) W2 [row (some ⟨g1, 0, none⟩) 0 0 (ci .i64 ([])) 3 1] := H_.cast_ (by kernel_rfl)
  clear H_
  refine ql (.slice (some ⟨g1, 0, none⟩) 0 0) (by kernel_rfl) (by kernel_rfl) ?_
  refine wpList_nil ?_
  refine x_then ?_
  refine wp_seq ?_
  refine wp_block ?_
  refine wp_loop_ghost (fun kq a' w' => ∃ (J3 : Nat → Value) (q : List Int) (Ao : Option Addr) (co : Nat) (os : List Int) , a' = Fr [.slice A q.length c, .int .i64 left, undef, undef, .slice none 0 0, .slice none 0 0, .slice Ao os.length co, (J3 7), (J3 8), (J3 9), .slice (some ⟨g1, 0, none⟩) 0 0, (J3 11), (J3 12), (J3 13), (J3 14), (J3 15), (J3 16), (J3 17), (J3 18), (J3 19), (J3 20), (J3 21), (J3 22), (J3 23), (J3 24), (J3 25), (J3 26), (J3 27), (J3 28), (J3 29), (J3 30), undef, undef] ∧ kq = (q.length) ∧ (q = xs.take q.length) ∧ (q.length ≤ xs.length) ∧ (xs.length ≤ q.length ∨ left ≤ q.length) ∧ (os = (xs.drop q.length).reverse) ∧ (os.length + q.length = xs.length) ∧ St W (owns []) w' [row Ao os.length co (ci .i64 os) 3 1]) (xs.length) ⟨(fun k_ : Nat => List.getD [.slice A xs.length c, .int .i64 left, undef, undef, .slice none 0 0, .slice none 0 0, .slice (some ⟨g1, 0, none⟩) 0 0, undef, undef, undef, .slice (some ⟨g1, 0, none⟩) 0 0, undef, undef, undef, undef, undef, undef, undef, undef, undef, undef, undef, undef, undef, undef, undef, undef, undef, undef, undef, undef, undef, undef] k_ undef), xs, some ⟨g1, 0, none⟩, 0, ([] : List Int), congrArg Fr (by kernel_rfl), rfl, by rw [List.take_length], Nat.le_refl _, by omega, by simp, by simp, HS⟩ ?_
  clear HS
  intro kq4 a' W5 hrel
  obtain ⟨J3, q, Ao, co, os, rfl, hk, hq, hql, hqm, ho, hol, HS⟩ := hrel
  have hrq : Rd W A (ci .i64 q) := by rw [hq]; exact rd_takeI hr
  refine wp_seq ?_
  refine wp_seq ?_
  refine wp_region_lit ?_
  refine ql (.slice A q.length c) (by kernel_rfl) (by kernel_rfl) ?_
  refine ql (.int .i64 (q.length : Int)) (by kernel_rfl) (by kernel_rfl) ?_
  by_cases hc6 : (q.length : Int) > (0 : Int)
  · skip
    refine ql (.bool true) (by kernel_rfl) (R_bool (p := (q.length : Int) > (0 : Int)) (by kernel_rfl) (hc6)) ?_
    refine ql (.bool true) (by kernel_rfl) (by kernel_rfl) ?_
    refine ql (.slice A q.length c) (by kernel_rfl) (by kernel_rfl) ?_
    refine ql (.int .i64 (q.length : Int)) (by kernel_rfl) (by kernel_rfl) ?_
    refine ql (.int .i64 left) (by kernel_rfl) (by kernel_rfl) ?_
    by_cases hc7 : (q.length : Int) > left
    · skip
      refine ql (.bool true) (by kernel_rfl) (R_bool (p := (q.length : Int) > left) (by kernel_rfl) (hc7)) ?_
      refine ql (.bool true) (by kernel_rfl) (by kernel_rfl) ?_
      refine wpList_nil ?_
      refine x_then ?_
      refine wp_cond_true (by kernel_rfl) ?_
      refine wp_skip ?_
      refine x_then ?_
      refine wp_block ?_
      refine wp_seq ?_
      refine wp_region_lit ?_
      refine ql (.slice A q.length c) (by kernel_rfl) (by kernel_rfl) ?_
      refine qc (f := 57) (args := #[.slice A q.length c]) (by kernel_rfl) (R_call #[.slice A q.length c] Try.func57 (by kernel_rfl) (by kernel_rfl) (by kernel_rfl)) ?_
      obtain ⟨q2, hq2⟩ : ∃ z_ : List Int, z_ = q.take (q.length - 1) := ⟨_, rfl⟩
      have hcs := cut_step hq (by omega) hq2 ho
      refine (last_some _ _ _ _ (hrq.old0 HS) (by omega) (by omega) (by omega) q2 hq2).mono ?_
      rintro e W8 ⟨rfl, H_⟩
      refine ⟨_, rfl, ?_⟩
      replace HS : St W (owns []) W8 [row Ao os.length co (ci .i64 os) 3 1] := HS.join (F := []) (G := []) H_
      clear H_
      refine ql (.tuple #[.slice A q2.length c, .int .i64 (rdI q ((q.length : Int) - 1)), .bool true]) (by kernel_rfl) (by kernel_rfl) ?_
      refine ql (.slice A q2.length c) (by kernel_rfl) (by kernel_rfl) ?_
      refine ql (.int .i64 (rdI q ((q.length : Int) - 1))) (by kernel_rfl) (by kernel_rfl) ?_
      refine ql (.bool true) (by kernel_rfl) (by kernel_rfl) ?_
      refine ql (.slice A q2.length c) (by kernel_rfl) (by kernel_rfl) ?_
      refine ql (.int .i64 (rdI q ((q.length : Int) - 1))) (by kernel_rfl) (by kernel_rfl) ?_
      refine ql (.bool true) (by kernel_rfl) (by kernel_rfl) ?_
      refine wpList_nil ?_
      refine x_then ?_
      refine wp_seq ?_
      refine wp_region_lit ?_
      refine ql (.slice A q2.length c) (by kernel_rfl) (by kernel_rfl) ?_
      refine ql (.slice A q2.length c) (by kernel_rfl) (by kernel_rfl) ?_
      refine wpList_nil ?_
      refine x_then ?_
      refine wp_region_lit ?_
      refine ql (.slice Ao os.length co) (by kernel_rfl) (by kernel_rfl) ?_
      refine ql (.int .i64 (rdI q ((q.length : Int) - 1))) (by kernel_rfl) (by kernel_rfl) ?_
      refine kl HS 1 [.int .i64 (rdI q ((q.length : Int) - 1))] 3 1 (by kernel_rfl) (by kernel_rfl) rfl (by decide) ?_
      intro g9 W10 H_
      replace HS : St W (owns []) W10 [row (some ⟨g9, 0, none⟩) 1 1 (ci .i64 ([rdI q ((q.length : Int) - 1)])) 3 1, row Ao os.length co (ci .i64 os) 3 1] := H_.cast_ (by kernel_rfl)
      clear H_
      obtain ⟨xs14, xs14_⟩ : ∃ z_ : List Int, z_ = os ++ ([rdI q ((q.length : Int) - 1)]) := ⟨_, rfl⟩
      have xs14l : xs14.length = os.length + 1 := by rw [xs14_, List.length_append] <;> (try simp only [List.length_cons, List.length_nil]) <;> omega
      refine ka1 HS 1 rfl (Src.of_row HS (i := 0) rfl ci_one) [.int .i64 0] 8 xs14.length (ci .i64 xs14) (by omega) (by rw [xs14_, ci_app]) (by kernel_rfl) (by kernel_rfl) (by kernel_rfl) Try.underlying49 (by kernel_rfl) (by kernel_rfl) (by kernel_rfl) (by kernel_rfl) (by decide) (by omega) (by omega) ?_
      intro A11 c12 W13 H_
      replace HS : St W (owns []) W13 [row (some ⟨g9, 0, none⟩) 1 1 (ci .i64 ([rdI q ((q.length : Int) - 1)])) 3 1, row A11 xs14.length c12 (ci .i64 xs14) 3 1] := H_
      clear H_
      refine ql (.slice A11 xs14.length c12) (by kernel_rfl) (by kernel_rfl) ?_
      refine wpList_nil ?_
      refine x_inb ?_
      replace HS := HS.drop1
      refine x_then ?_
      exact ⟨q2.length, by omega, (fun k_ : Nat => List.getD [.slice A q2.length c, .int .i64 left, undef, undef, .slice none 0 0, .slice none 0 0, .slice A11 xs14.length c12, .slice A q2.length c, .int .i64 (rdI q ((q.length : Int) - 1)), .bool true, .slice (some ⟨g1, 0, none⟩) 0 0, .slice A q.length c, .int .i64 (q.length : Int), .bool true, .bool true, .slice A q.length c, .int .i64 (q.length : Int), .int .i64 left, .bool true, .bool true, .tuple #[.slice A q2.length c, .int .i64 (rdI q ((q.length : Int) - 1)), .bool true], .slice A q.length c, .tuple #[.slice A q2.length c, .int .i64 (rdI q ((q.length : Int) - 1)), .bool true], .slice A q2.length c, .int .i64 (rdI q ((q.length : Int) - 1)), .bool true, .slice A q2.length c, .slice Ao os.length co, .int .i64 (rdI q ((q.length : Int) - 1)), .slice (some ⟨g9, 0, none⟩) 1 1, .slice A11 xs14.length c12, undef, undef] k_ undef), q2, A11, c12, xs14, congrArg Fr (by kernel_rfl), rfl, hcs.2.1, by omega, by omega, by rw [xs14_]; exact hcs.2.2, by omega, HS⟩
    · skip
      refine ql (.bool false) (by kernel_rfl) (R_nbool (p := (q.length : Int) > left) (by kernel_rfl) (hc7)) ?_
      refine ql (.bool false) (by kernel_rfl) (by kernel_rfl) ?_
      refine wpList_nil ?_
      refine x_then ?_
      refine wp_cond_false (by kernel_rfl) ?_
      refine wp_exit ?_
      refine x_thenE ?_
      refine x_thenE ?_
      refine x_hit ?_
      refine x_then ?_
      refine wp_seq ?_
      refine wp_region_lit ?_
      refine ql (.slice A q.length c) (by kernel_rfl) (by kernel_rfl) ?_
      refine ql (.slice Ao os.length co) (by kernel_rfl) (by kernel_rfl) ?_
      refine ql (.slice A q.length c) (by kernel_rfl) (by kernel_rfl) ?_
      refine ql (.slice Ao os.length co) (by kernel_rfl) (by kernel_rfl) ?_
      refine wpList_nil ?_
      refine x_then ?_
      refine wp_ret ?_
      refine ret_ (.tuple #[.slice A q.length c, .slice Ao os.length co]) (by kernel_rfl) ?_
      have hqe : q.length = min xs.length left.toNat := by omega
      rw [hqe] at hq ho
      subst ho; subst hq
      exact ⟨_, _, rfl, HS⟩
  · skip
    refine ql (.bool false) (by kernel_rfl) (R_nbool (p := (q.length : Int) > (0 : Int)) (by kernel_rfl) (hc6)) ?_
    refine ql (.bool false) (by kernel_rfl) (by kernel_rfl) ?_
    refine qln (by kernel_rfl) ?_
    refine qln (by kernel_rfl) ?_
    refine qln (by kernel_rfl) ?_
    refine qln (by kernel_rfl) ?_
    refine ql (.bool false) (by kernel_rfl) (by kernel_rfl) ?_
    refine wpList_nil ?_
    refine x_then ?_
    refine wp_cond_false (by kernel_rfl) ?_
    refine wp_exit ?_
    refine x_thenE ?_
    refine x_thenE ?_
    refine x_hit ?_
    refine x_then ?_
    refine wp_seq ?_
    refine wp_region_lit ?_
    refine ql (.slice A q.length c) (by kernel_rfl) (by kernel_rfl) ?_
    refine ql (.slice Ao os.length co) (by kernel_rfl) (by kernel_rfl) ?_
    refine ql (.slice A q.length c) (by kernel_rfl) (by kernel_rfl) ?_
    refine ql (.slice Ao os.length co) (by kernel_rfl) (by kernel_rfl) ?_
    refine wpList_nil ?_
    refine x_then ?_
    refine wp_ret ?_
    refine ret_ (.tuple #[.slice A q.length c, .slice Ao os.length co]) (by kernel_rfl) ?_
    have hqe : q.length = min xs.length left.toNat := by omega
    rw [hqe] at hq ho
    subst ho; subst hq
    exact ⟨_, _, rfl, HS⟩

set_option maxRecDepth 100000 in
set_option maxHeartbeats 1000000 in
theorem scut (g : Nat) (A : Option Addr) (c : Nat) (xs : List Int) (left : Int) (W : World) (M : Nat → Prop) (HS : St W M W [blk g [.slice A xs.length c] 88, row A xs.length c (ci .i64 xs) 3 1]) (hl : xs.length ≤ 1099511627776) : Calls Try.prog 61 #[.pointer (some ⟨g, 0, none⟩), .int .i64 left] W fun e W' => ∃ A' c', e = .returned (.slice A' (xs.drop (min xs.length left.toNat)).reverse.length c') ∧ St W M W' [row A' (xs.drop (min xs.length left.toNat)).reverse.length c' (ci .i64 ((xs.drop (min xs.length left.toNat)).reverse)) 3 1, blk g [.slice A ((xs.take (min xs.length left.toNat)).length) c] 88, row A ((xs.take (min xs.length left.toNat)).length) c (ci .i64 (xs.take (min xs.length left.toNat))) 3 1] := by
  refine calls_enter [.pointer (some ⟨g, 0, none⟩), .int .i64 left, undef, undef, undef, undef, undef, undef, undef, undef, undef, undef, undef, undef, undef, undef, undef, undef, undef, undef, undef, undef, undef] Try.func61 rfl (by kernel_rfl) ?_
  refine wp_seq ?_
  refine wp_region_lit ?_
  refine ql (.slice none 0 0) (by kernel_rfl) (by kernel_rfl) ?_
  refine wpList_nil ?_
  refine x_then ?_
  refine wp_seq ?_
  refine wp_region_lit ?_
  refine ql (.slice none 0 0) (by kernel_rfl) (by kernel_rfl) ?_
  refine wpList_nil ?_
  refine x_then ?_
  refine wp_seq ?_
  refine wp_block ?_
  replace HS : St W M W [row none 0 0 (ci .i64 ([])) 3 1, blk g [.slice A xs.length c] 88, row A xs.length c (ci .i64 xs) 3 1] := (HS.nilRow 3 1).cast_ (by kernel_rfl)
  refine wp_loop_ghost (fun kq a' w' => ∃ (J1 : Nat → Value) (q : List Int) (Ao : Option Addr) (co : Nat) (os : List Int) , a' = Fr [.pointer (some ⟨g, 0, none⟩), .int .i64 left, undef, undef, .slice none 0 0, .slice Ao os.length co, (J1 6), (J1 7), (J1 8), (J1 9), (J1 10), (J1 11), (J1 12), (J1 13), (J1 14), (J1 15), (J1 16), (J1 17), (J1 18), (J1 19), (J1 20), (J1 21), undef] ∧ kq = (q.length) ∧ (q = xs.take q.length) ∧ (q.length ≤ xs.length) ∧ (xs.length ≤ q.length ∨ left ≤ q.length) ∧ (os = (xs.drop q.length).reverse) ∧ (os.length + q.length = xs.length) ∧ St W M w' [row Ao os.length co (ci .i64 os) 3 1, blk g [.slice A q.length c] 88, row A q.length c (ci .i64 q) 3 1]) (xs.length) ⟨(fun k_ : Nat => List.getD [.pointer (some ⟨g, 0, none⟩), .int .i64 left, undef, undef, .slice none 0 0, .slice none 0 0, undef, undef, undef, undef, undef, undef, undef, undef, undef, undef, undef, undef, undef, undef, undef, undef, undef] k_ undef), xs, none, 0, ([] : List Int), congrArg Fr (by kernel_rfl), rfl, by rw [List.take_length], Nat.le_refl _, by omega, by simp, by simp, HS⟩ ?_
  clear HS
  intro kq2 a' W3 hrel
  obtain ⟨J1, q, Ao, co, os, rfl, hk, hq, hql, hqm, ho, hol, HS⟩ := hrel
  refine wp_seq ?_
  refine wp_seq ?_
  refine wp_region_lit ?_
  refine ql (.pointer (some ⟨g, 0, none⟩)) (by kernel_rfl) (by kernel_rfl) ?_
  refine qc (f := 63) (args := #[.pointer (some ⟨g, 0, none⟩)]) (by kernel_rfl) (R_call #[.pointer (some ⟨g, 0, none⟩)] Try.func63 (by kernel_rfl) (by kernel_rfl) (by kernel_rfl)) ?_
  refine (slen _ _ _ q _ (HS.cell (i := 1) (j := 0) rfl rfl)).mono ?_
  rintro e W4 ⟨rfl, H_⟩
  refine ⟨_, rfl, ?_⟩
  replace HS : St W M W4 [row Ao os.length co (ci .i64 os) 3 1, blk g [.slice A q.length c] 88, row A q.length c (ci .i64 q) 3 1] := HS.join (F := []) (G := []) H_
  clear H_
  refine ql (.int .i64 left) (by kernel_rfl) (by kernel_rfl) ?_
  refine ql (.int .i64 (max left (0 : Int))) (by kernel_rfl) (R_max (i := left) (j := 0) (by kernel_rfl) (by kernel_rfl)) ?_
  by_cases hc5 : (q.length : Int) > (max left (0 : Int))
  · skip
    refine ql (.bool true) (by kernel_rfl) (R_bool (p := (q.length : Int) > (max left (0 : Int))) (by kernel_rfl) (hc5)) ?_
    refine wpList_nil ?_
    refine x_then ?_
    refine wp_cond_true (by kernel_rfl) ?_
    refine wp_skip ?_
    refine x_then ?_
    refine wp_block ?_
    refine wp_seq ?_
    refine wp_region_lit ?_
    refine ql (.pointer (some ⟨g, 0, none⟩)) (by kernel_rfl) (by kernel_rfl) ?_
    refine qc (f := 58) (args := #[.pointer (some ⟨g, 0, none⟩)]) (by kernel_rfl) (R_call #[.pointer (some ⟨g, 0, none⟩)] Try.func58 (by kernel_rfl) (by kernel_rfl) (by kernel_rfl)) ?_
    obtain ⟨q2, hq2⟩ : ∃ z_ : List Int, z_ = q.take (q.length - 1) := ⟨_, rfl⟩
    have hcs := cut_step hq (by omega) hq2 ho
    replace HS : St W M W4 [blk g [.slice A q.length c] 88, row A q.length c (ci .i64 q) 3 1, row Ao os.length co (ci .i64 os) 3 1] := HS.perm (perm_ [1, 2, 0] (by kernel_rfl) rfl)
    refine (pop_some _ _ _ q _ _ (St.focus (F := [blk g [.slice A q.length c] 88, row A q.length c (ci .i64 q) 3 1]) HS) (by omega) (by omega) (St.rcap HS (i := 1) rfl).1 q2 hq2).mono ?_
    rintro e W6 ⟨rfl, H_⟩
    refine ⟨_, rfl, ?_⟩
    replace HS : St W M W6 [blk g [.slice A q2.length c] 88, row A q2.length c (ci .i64 q2) 3 1, row Ao os.length co (ci .i64 os) 3 1] := HS.join (F := [blk g [.slice A q.length c] 88, row A q.length c (ci .i64 q) 3 1]) (G := [blk g [.slice A q2.length c] 88, row A q2.length c (ci .i64 q2) 3 1]) H_
    clear H_
    refine ql (.tuple #[.int .i64 (rdI q ((q.length : Int) - 1)), .bool true]) (by kernel_rfl) (by kernel_rfl) ?_
    refine ql (.int .i64 (rdI q ((q.length : Int) - 1))) (by kernel_rfl) (by kernel_rfl) ?_
    refine ql (.bool true) (by kernel_rfl) (by kernel_rfl) ?_
    refine ql (.int .i64 (rdI q ((q.length : Int) - 1))) (by kernel_rfl) (by kernel_rfl) ?_
    refine ql (.bool true) (by kernel_rfl) (by kernel_rfl) ?_
    refine wpList_nil ?_
    refine x_then ?_
    refine wp_region_lit ?_
    refine ql (.slice Ao os.length co) (by kernel_rfl) (by kernel_rfl) ?_
    refine ql (.int .i64 (rdI q ((q.length : Int) - 1))) (by kernel_rfl) (by kernel_rfl) ?_
    refine kl HS 1 [.int .i64 (rdI q ((q.length : Int) - 1))] 3 1 (by kernel_rfl) (by kernel_rfl) rfl (by decide) ?_
    intro g7 W8 H_
    replace HS : St W M W8 [row (some ⟨g7, 0, none⟩) 1 1 (ci .i64 ([rdI q ((q.length : Int) - 1)])) 3 1, blk g [.slice A q2.length c] 88, row A q2.length c (ci .i64 q2) 3 1, row Ao os.length co (ci .i64 os) 3 1] := H_.cast_ (by kernel_rfl)
    clear H_
    obtain ⟨xs12, xs12_⟩ : ∃ z_ : List Int, z_ = os ++ ([rdI q ((q.length : Int) - 1)]) := ⟨_, rfl⟩
    have xs12l : xs12.length = os.length + 1 := by rw [xs12_, List.length_append] <;> (try simp only [List.length_cons, List.length_nil]) <;> omega
    refine ka1 HS 3 rfl (Src.of_row HS (i := 0) rfl ci_one) [.int .i64 0] 8 xs12.length (ci .i64 xs12) (by omega) (by rw [xs12_, ci_app]) (by kernel_rfl) (by kernel_rfl) (by kernel_rfl) Try.underlying49 (by kernel_rfl) (by kernel_rfl) (by kernel_rfl) (by kernel_rfl) (by decide) (by omega) (by omega) ?_
    intro A9 c10 W11 H_
    replace HS : St W M W11 [row (some ⟨g7, 0, none⟩) 1 1 (ci .i64 ([rdI q ((q.length : Int) - 1)])) 3 1, blk g [.slice A q2.length c] 88, row A q2.length c (ci .i64 q2) 3 1, row A9 xs12.length c10 (ci .i64 xs12) 3 1] := H_
    clear H_
    refine ql (.slice A9 xs12.length c10) (by kernel_rfl) (by kernel_rfl) ?_
    refine wpList_nil ?_
    refine x_inb ?_
    replace HS : St W M W11 [row A9 xs12.length c10 (ci .i64 xs12) 3 1, blk g [.slice A q2.length c] 88, row A q2.length c (ci .i64 q2) 3 1] := St.tail (F := [row (some ⟨g7, 0, none⟩) 1 1 (ci .i64 ([rdI q ((q.length : Int) - 1)])) 3 1]) (HS.perm (perm_ [0, 3, 1, 2] (by kernel_rfl) rfl))
    refine x_then ?_
    exact ⟨q2.length, by omega, (fun k_ : Nat => List.getD [.pointer (some ⟨g, 0, none⟩), .int .i64 left, undef, undef, .slice none 0 0, .slice A9 xs12.length c10, .int .i64 (rdI q ((q.length : Int) - 1)), .bool true, .pointer (some ⟨g, 0, none⟩), .int .i64 (q.length : Int), .int .i64 left, .int .i64 (max left (0 : Int)), .bool true, .tuple #[.int .i64 (rdI q ((q.length : Int) - 1)), .bool true], .pointer (some ⟨g, 0, none⟩), .tuple #[.int .i64 (rdI q ((q.length : Int) - 1)), .bool true], .int .i64 (rdI q ((q.length : Int) - 1)), .bool true, .slice Ao os.length co, .int .i64 (rdI q ((q.length : Int) - 1)), .slice (some ⟨g7, 0, none⟩) 1 1, .slice A9 xs12.length c10, undef] k_ undef), q2, A9, c10, xs12, congrArg Fr (by kernel_rfl), rfl, hcs.2.1, by omega, by omega, by rw [xs12_]; exact hcs.2.2, by omega, HS⟩
  · skip
    refine ql (.bool false) (by kernel_rfl) (R_nbool (p := (q.length : Int) > (max left (0 : Int))) (by kernel_rfl) (hc5)) ?_
    refine wpList_nil ?_
    refine x_then ?_
    refine wp_cond_false (by kernel_rfl) ?_
    refine wp_exit ?_
    refine x_thenE ?_
    refine x_thenE ?_
    refine x_hit ?_
    refine x_then ?_
    refine wp_seq ?_
    refine wp_region_lit ?_
    refine ql (.slice Ao os.length co) (by kernel_rfl) (by kernel_rfl) ?_
    refine ql (.slice Ao os.length co) (by kernel_rfl) (by kernel_rfl) ?_
    refine wpList_nil ?_
    refine x_then ?_
    refine wp_ret ?_
    refine ret_ (.slice Ao os.length co) (by kernel_rfl) ?_
    have hqe : q.length = min xs.length left.toNat := by omega
    rw [hqe] at hq ho
    subst ho; subst hq
    exact ⟨_, _, rfl, HS⟩

set_option maxRecDepth 100000 in
set_option maxHeartbeats 1000000 in
theorem same_t (A B : Option Addr) (c d : Nat) (xs : List Int) (W : World) (hr : Rd W A (ci .i64 xs)) (hs : Rd W B (ci .i64 xs)) (hl : xs.length ≤ 1099511627776) : Calls Try.prog 60 #[.slice A xs.length c, .slice B xs.length d] W fun e W' => e = .returned (.bool true) ∧ St W (owns []) W' [] := by
  have HS : St W (owns []) W [] := St.start W _
  refine calls_enter [.slice A xs.length c, .slice B xs.length d, undef, undef, undef, undef, undef, undef, undef, undef, undef, undef, undef, undef, undef, undef, undef, undef, undef, undef, undef, undef, undef, undef, undef, undef] Try.func60 rfl (by kernel_rfl) ?_
  refine wp_seq ?_
  refine wp_region_lit ?_
  refine ql (.bool false) (by kernel_rfl) (by kernel_rfl) ?_
  refine wpList_nil ?_
  refine x_then ?_
  refine wp_seq ?_
  refine wp_seq ?_
  refine wp_region_lit ?_
  refine ql (.slice A xs.length c) (by kernel_rfl) (by kernel_rfl) ?_
  refine ql (.int .i64 (xs.length : Int)) (by kernel_rfl) (by kernel_rfl) ?_
  refine ql (.slice B xs.length d) (by kernel_rfl) (by kernel_rfl) ?_
  refine ql (.int .i64 (xs.length : Int)) (by kernel_rfl) (by kernel_rfl) ?_
  refine ql (.bool false) (by kernel_rfl) (R_beq (b := ((xs.length : Int) != (xs.length : Int))) (by kernel_rfl) (bne_f (by omega))) ?_
  refine wpList_nil ?_
  refine x_then ?_
  refine wp_cond_false (by kernel_rfl) ?_
  refine wp_skip ?_
  refine x_then ?_
  refine wp_seq ?_
  refine wp_seq ?_
  refine wp_region_lit ?_
  refine ql (.int .i64 0) (by kernel_rfl) (by kernel_rfl) ?_
  refine wpList_nil ?_
  refine x_then ?_
  refine wp_block ?_
  refine wp_loop_ghost (fun kq a' w' => ∃ (J1 : Nat → Value) (i : Int) , a' = Fr [.slice A xs.length c, .slice B xs.length d, undef, undef, (J1 4), .int .i64 i, .slice A xs.length c, .int .i64 (xs.length : Int), .slice B xs.length d, .int .i64 (xs.length : Int), .bool false, (J1 11), (J1 12), (J1 13), (J1 14), (J1 15), (J1 16), (J1 17), (J1 18), (J1 19), (J1 20), (J1 21), (J1 22), (J1 23), (J1 24), (J1 25)] ∧ kq = (xs.length - (i).toNat) ∧ (0 ≤ i) ∧ (i ≤ xs.length) ∧ St W (owns []) w' []) (xs.length - ((0 : Int)).toNat) ⟨(fun k_ : Nat => List.getD [.slice A xs.length c, .slice B xs.length d, undef, undef, .bool false, .int .i64 0, .slice A xs.length c, .int .i64 (xs.length : Int), .slice B xs.length d, .int .i64 (xs.length : Int), .bool false, undef, undef, undef, undef, undef, undef, undef, undef, undef, undef, undef, undef, undef, undef, undef] k_ undef), (0 : Int), congrArg Fr (by kernel_rfl), rfl, by omega, by omega, HS⟩ ?_
  clear HS
  intro kq2 a' W3 hrel
  obtain ⟨J1, i, rfl, hk, h0, h1, HS⟩ := hrel
  refine wp_seq ?_
  refine wp_seq ?_
  refine wp_region_lit ?_
  refine ql (.int .i64 i) (by kernel_rfl) (by kernel_rfl) ?_
  refine ql (.slice A xs.length c) (by kernel_rfl) (by kernel_rfl) ?_
  refine ql (.int .i64 (xs.length : Int)) (by kernel_rfl) (by kernel_rfl) ?_
  by_cases hc4 : i < (xs.length : Int)
  · skip
    refine ql (.bool true) (by kernel_rfl) (R_bool (p := i < (xs.length : Int)) (by kernel_rfl) (hc4)) ?_
    refine wpList_nil ?_
    refine x_then ?_
    refine wp_cond_true (by kernel_rfl) ?_
    refine wp_skip ?_
    refine x_then ?_
    refine wp_seq ?_
    refine wp_block ?_
    refine wp_seq ?_
    refine rg_still HS 8 (by kernel_rfl) (by kernel_rfl) ?_
    intro W5 H_ HK_
    simp only [List.take_succ_cons, List.take_zero, List.drop_succ_cons, List.drop_zero]
    replace HS : St W (owns []) W5 [] := H_
    clear H_
    clear HK_
    refine qs (.slice A xs.length c) (by kernel_rfl) (by kernel_rfl) ?_
    refine qs (.int .i64 i) (by kernel_rfl) (by kernel_rfl) ?_
    obtain ⟨ad6, rfl⟩ := Rd.isSome_ hr (by rw [ci_len]; omega)
    refine qs (.pointer (some (ad6.add i.toNat))) (by kernel_rfl) (R_indexA1 (k := .i64) (p := ad6) (n := xs.length) (c := c) (i := i) (by kernel_rfl) (by kernel_rfl) Try.underlying49 (by kernel_rfl) (by omega) (by omega)) ?_
    refine qs (.int .i64 (rdI xs i)) (by kernel_rfl) (R_load (p := ad6.add i.toNat) (by kernel_rfl) (by kernel_rfl) (by kernel_rfl) (HS.old0 (hr.at_ (ci_rd (i := i) (by omega) (by omega))))) ?_
    refine qs (.slice B xs.length d) (by kernel_rfl) (by kernel_rfl) ?_
    refine qs (.int .i64 i) (by kernel_rfl) (by kernel_rfl) ?_
    obtain ⟨ad7, rfl⟩ := Rd.isSome_ hs (by rw [ci_len]; omega)
    refine qs (.pointer (some (ad7.add i.toNat))) (by kernel_rfl) (R_indexA1 (k := .i64) (p := ad7) (n := xs.length) (c := d) (i := i) (by kernel_rfl) (by kernel_rfl) Try.underlying49 (by kernel_rfl) (by omega) (by omega)) ?_
    refine qs (.int .i64 (rdI xs i)) (by kernel_rfl) (R_load (p := ad7.add i.toNat) (by kernel_rfl) (by kernel_rfl) (by kernel_rfl) (HS.old0 (hs.at_ (ci_rd (i := i) (by omega) (by omega))))) ?_
    refine wpStill_nil ?_
    refine ql (.bool false) (by kernel_rfl) (R_beq (b := (rdI xs i != rdI xs i)) (by kernel_rfl) (bne_f (by omega))) ?_
    refine wpList_nil ?_
    refine x_then ?_
    refine wp_cond_false (by kernel_rfl) ?_
    refine wp_skip ?_
    refine x_inb ?_
    refine x_then ?_
    refine wp_region_lit ?_
    refine ql (.int .i64 i) (by kernel_rfl) (by kernel_rfl) ?_
    refine ql (.int .i64 (i + 1)) (by kernel_rfl) (R_int (by kernel_rfl) (w64 (by omega))) ?_
    refine ql (.int .i64 (i + 1)) (by kernel_rfl) (by kernel_rfl) ?_
    refine wpList_nil ?_
    refine x_then ?_
    exact ⟨xs.length - (i + 1).toNat, by omega, (fun k_ : Nat => List.getD [.slice (some ad6) xs.length c, .slice (some ad7) xs.length d, undef, undef, (J1 4), .int .i64 (i + 1), .slice (some ad6) xs.length c, .int .i64 (xs.length : Int), .slice (some ad7) xs.length d, .int .i64 (xs.length : Int), .bool false, .int .i64 i, .slice (some ad6) xs.length c, .int .i64 (xs.length : Int), .bool true, .int .i64 i, .int .i64 (i + 1), .slice (some ad6) xs.length c, .int .i64 i, .pointer (some (ad6.add i.toNat)), .int .i64 (rdI xs i), .slice (some ad7) xs.length d, .int .i64 i, .pointer (some (ad7.add i.toNat)), .int .i64 (rdI xs i), .bool false] k_ undef), i + 1, congrArg Fr (by kernel_rfl), rfl, by omega, by omega, HS⟩
  · skip
    refine ql (.bool false) (by kernel_rfl) (R_nbool (p := i < (xs.length : Int)) (by kernel_rfl) (hc4)) ?_
    refine wpList_nil ?_
    refine x_then ?_
    refine wp_cond_false (by kernel_rfl) ?_
    refine wp_exit ?_
    refine x_thenE ?_
    refine x_thenE ?_
    refine x_hit ?_
    refine x_then ?_
    refine wp_seq ?_
    refine wp_region_lit ?_
    refine ql (.bool true) (by kernel_rfl) (by kernel_rfl) ?_
    refine wpList_nil ?_
    refine x_then ?_
    refine wp_ret ?_
    refine ret_ (.bool true) (by kernel_rfl) ?_
    exact ⟨rfl, HS⟩

def actC (a : Int × Int) : List Value := [.int .i64 a.1, .int .i64 a.2]
open Classical in
/-- What the worklist's map holds. -/
def Held (xs : List Int) (F : Lit → Int) : Prop := ∀ v : Int, F (.int .i64 v) = if v ∈ xs then 1 else 0
theorem held_nil : Held [] (fun _ => 0) := fun v => by rw [if_neg (by simp)]
theorem held_in {xs : List Int} {F F' : Lit → Int} {v : Int} (h : Held xs F) (hv : v ∈ xs) (h1 : F' (.int .i64 v) = 1 ∧ ∀ x, x ≠ .int .i64 v → F' x = F x) : Held xs F' := fun u => by
  by_cases e : u = v
  · subst e; rw [h1.1, if_pos hv]
  · rw [h1.2 _ (fun h9 => e (by injection h9))]; exact h u
theorem held_out {xs : List Int} {F F' : Lit → Int} {v : Int} (h : Held xs F) (h1 : F' (.int .i64 v) = 1 ∧ ∀ x, x ≠ .int .i64 v → F' x = F x) : Held (xs ++ [v]) F' := fun u => by
  by_cases e : u = v
  · subst e; rw [h1.1, if_pos (by simp)]
  · rw [h1.2 _ (fun h9 => e (by injection h9)), h u]
    have : (u ∈ xs ++ [v]) ↔ u ∈ xs := by simp [e]
    by_cases hu : u ∈ xs
    · rw [if_pos hu, if_pos (this.2 hu)]
    · rw [if_neg hu, if_neg (fun h9 => hu (this.1 h9))]
theorem held_pop {xs : List Int} {F F' : Lit → Int} (h : Held xs F) (hn : xs.Nodup) (h0 : 0 < xs.length) (h1 : F' (.int .i64 (rdI xs 0)) = 0 ∧ ∀ x, x ≠ .int .i64 (rdI xs 0) → F' x = F x) : Held xs.tail F' := by
  obtain ⟨u, ys, rfl⟩ : ∃ u ys, xs = u :: ys := by cases xs with | nil => simp at h0 | cons u ys => exact ⟨u, ys, rfl⟩
  have e : rdI (u :: ys) 0 = u := by unfold rdI; rfl
  rw [e] at h1
  have hnd := List.nodup_cons.1 hn
  intro w
  rw [List.tail_cons]
  by_cases e2 : w = u
  · subst e2; rw [h1.1, if_neg hnd.1]
  · rw [h1.2 _ (fun h9 => e2 (by injection h9)), h w]
    have : (w ∈ u :: ys) ↔ w ∈ ys := by simp [e2]
    by_cases hu : w ∈ ys
    · rw [if_pos hu, if_pos (this.2 hu)]
    · rw [if_neg hu, if_neg (fun h9 => hu (this.1 h9))]

theorem wpushM_in (g tb : Nat) (A : Option Addr) (c f n : Nat) (bs xs : List Int) (mv : Value) (m : Nat) (F : Lit → Int) (W : World) (M : Nat → Prop) (v : Int) (HS : St W M W [mpo Try.prog 3 3 mv m F, blk g [.slice A bs.length c, .int .i64 (f : Int), .int .i64 (n : Int), mv] tb, row A bs.length c (ci .i64 bs) 3 1]) (hq : RQ bs f n xs) (hH : Held xs F) (hl : xs.length ≤ 1048576) (hv : -9223372036854775808 ≤ v ∧ v ≤ 9223372036854775807) (hm : m ≤ 1048576) (hin : v ∈ xs) : Calls Try.prog 38 #[.pointer (some ⟨g, 0, none⟩), .int .i64 v] W fun e W' => ∃ (m' : Nat) (F' : Lit → Int), e = .returned (.bool false) ∧ St W M W' [mpo Try.prog 3 3 mv m' F', blk g [.slice A bs.length c, .int .i64 (f : Int), .int .i64 (n : Int), mv] tb, row A bs.length c (ci .i64 bs) 3 1] ∧ Held xs F' ∧ m' ≤ m + 2 := by
  have hF : F (.int .i64 v) = 1 := by rw [hH v, if_pos hin]
  rcases HS.mpo_case (i := 0) rfl with ⟨_, h0⟩ | ⟨b, rfl⟩
  · have := h0 (.int .i64 v); omega
  · refine (wpush_old g tb A c f n bs xs v W M b m F (HS.of_mpo (i := 0) rfl) hq hl hv hF hm).mono ?_
    rintro e W' ⟨m', F', he, hs, h1, h2⟩
    exact ⟨m', F', he, hs.to_mpo (i := 0) rfl, held_in hH hin h1, h2⟩
theorem wpushM_out (g tb : Nat) (A : Option Addr) (c f n : Nat) (bs xs : List Int) (mv : Value) (m : Nat) (F : Lit → Int) (W : World) (M : Nat → Prop) (v : Int) (HS : St W M W [mpo Try.prog 3 3 mv m F, blk g [.slice A bs.length c, .int .i64 (f : Int), .int .i64 (n : Int), mv] tb, row A bs.length c (ci .i64 bs) 3 1]) (hq : RQ bs f n xs) (hH : Held xs F) (hl : xs.length ≤ 1048576) (hv : -9223372036854775808 ≤ v ∧ v ≤ 9223372036854775807) (hm : m ≤ 1048576) (hin : v ∉ xs) : Calls Try.prog 38 #[.pointer (some ⟨g, 0, none⟩), .int .i64 v] W fun e W' => ∃ (mv' : Value) (m' : Nat) (F' : Lit → Int) (A' : Option Addr) (c' f' n' : Nat) (bs' : List Int), e = .returned (.bool true) ∧ St W M W' [mpo Try.prog 3 3 mv' m' F', blk g [.slice A' bs'.length c', .int .i64 (f' : Int), .int .i64 (n' : Int), mv'] tb, row A' bs'.length c' (ci .i64 bs') 3 1] ∧ RQ bs' f' n' (xs ++ [v]) ∧ Held (xs ++ [v]) F' ∧ m' ≤ m + 2 := by
  have hF : F (.int .i64 v) = 0 := by rw [hH v, if_neg hin]
  rcases HS.mpo_case (i := 0) rfl with ⟨rfl, h0⟩ | ⟨b, rfl⟩
  · refine (wpush_nil g tb A c f n bs xs v W M HS.drop1 hq hl hv).mono ?_
    rintro e W' ⟨b, m', F', A', c', f', n', bs', he, hs, h3, h1, h2⟩
    exact ⟨_, m', F', A', c', f', n', bs', he, hs.to_mpo (i := 0) rfl, h3, held_out hH ⟨h1.1, fun x hx => by rw [h1.2 x hx, h0 x]⟩, by omega⟩
  · refine (wpush_new g tb A c f n bs xs v W M b m F (HS.of_mpo (i := 0) rfl) hq hl hv hF hm).mono ?_
    rintro e W' ⟨m', F', A', c', f', n', bs', he, hs, h3, h1, h2⟩
    exact ⟨_, m', F', A', c', f', n', bs', he, hs.to_mpo (i := 0) rfl, h3, held_out hH h1, h2⟩
theorem wpopM (g tb : Nat) (A : Option Addr) (c f n : Nat) (bs xs : List Int) (mv : Value) (m : Nat) (F : Lit → Int) (W : World) (M : Nat → Prop) (HS : St W M W [mpo Try.prog 3 3 mv m F, blk g [.slice A bs.length c, .int .i64 (f : Int), .int .i64 (n : Int), mv] tb, row A bs.length c (ci .i64 bs) 3 1]) (hq : RQ bs f n xs) (hH : Held xs F) (hn : xs.Nodup) (hx : 0 < xs.length) (hv : -9223372036854775808 ≤ rdI xs 0 ∧ rdI xs 0 ≤ 9223372036854775807) : Calls Try.prog 42 #[.pointer (some ⟨g, 0, none⟩)] W fun e W' => ∃ (F' : Lit → Int) (A' : Option Addr) (c' f' : Nat) (bs' : List Int), e = .returned (.tuple #[.int .i64 (rdI xs 0), .bool true]) ∧ St W M W' [mpo Try.prog 3 3 mv m F', blk g [.slice A' bs'.length c', .int .i64 (f' : Int), .int .i64 ((n - 1 : Nat) : Int), mv] tb, row A' bs'.length c' (ci .i64 bs') 3 1] ∧ RQ bs' f' (n - 1) xs.tail ∧ Held xs.tail F' := by
  have hF : F (.int .i64 (rdI xs 0)) = 1 := by rw [hH, if_pos (List.mem_of_getElem? (rdI_eq (i := 0) (by omega) (by omega)))]
  rcases HS.mpo_case (i := 0) rfl with ⟨_, h0⟩ | ⟨b, rfl⟩
  · have := h0 (.int .i64 (rdI xs 0)); omega
  · refine (wpop_some g tb A c f n bs xs W M b m F (HS.of_mpo (i := 0) rfl) hq hx hv).mono ?_
    rintro e W' ⟨F', A', c', f', bs', he, hs, h3, h1⟩
    exact ⟨F', A', c', f', bs', he, hs.to_mpo (i := 0) rfl, h3, held_pop hH hn hx h1⟩

set_option maxRecDepth 100000 in
set_option maxHeartbeats 1000000 in
theorem first_nil (A : Option Addr) (c : Nat) (xs : List Int) (W : World) (hr : Rd W A (ci .i64 xs)) (hn : xs.length = 0) (hl : xs.length ≤ 1099511627776) (hlc : xs.length ≤ c) : Calls Try.prog 41 #[.slice A xs.length c] W fun e W' => e = .returned (.tuple #[.slice A xs.length c, .int .i64 0, .bool false]) ∧ St W (owns []) W' [] := by
  have HS : St W (owns []) W [] := St.start W _
  refine calls_enter [.slice A xs.length c, undef, undef, undef, undef, undef, undef, undef, undef, undef, undef, undef, undef, undef] Try.func41 rfl (by kernel_rfl) ?_
  refine wp_seq ?_
  refine wp_region_lit ?_
  refine ql (.slice none 0 0) (by kernel_rfl) (by kernel_rfl) ?_
  refine ql (.int .i64 0) (by kernel_rfl) (by kernel_rfl) ?_
  refine ql (.bool false) (by kernel_rfl) (by kernel_rfl) ?_
  refine wpList_nil ?_
  refine x_then ?_
  refine wp_seq ?_
  refine wp_seq ?_
  refine wp_region_lit ?_
  refine ql (.slice A xs.length c) (by kernel_rfl) (by kernel_rfl) ?_
  refine ql (.int .i64 (xs.length : Int)) (by kernel_rfl) (by kernel_rfl) ?_
  refine ql (.bool true) (by kernel_rfl) (R_beq (b := ((xs.length : Int) == (0 : Int))) (by kernel_rfl) (beq_t (by omega))) ?_
  refine wpList_nil ?_
  refine x_then ?_
  refine wp_cond_true (by kernel_rfl) ?_
  refine wp_seq ?_
  refine wp_region_lit ?_
  refine ql (.slice A xs.length c) (by kernel_rfl) (by kernel_rfl) ?_
  refine ql (.slice A xs.length c) (by kernel_rfl) (by kernel_rfl) ?_
  refine ql (.int .i64 0) (by kernel_rfl) (by kernel_rfl) ?_
  refine ql (.bool false) (by kernel_rfl) (by kernel_rfl) ?_
  refine wpList_nil ?_
  refine x_then ?_
  refine wp_ret ?_
  refine x_thenR ?_
  refine ret_ (.tuple #[.slice A xs.length c, .int .i64 0, .bool false]) (by kernel_rfl) ?_
  exact ⟨rfl, HS⟩

set_option maxRecDepth 100000 in
set_option maxHeartbeats 1000000 in
theorem first_some (A : Option Addr) (c : Nat) (xs : List Int) (W : World) (hr : Rd W A (ci .i64 xs)) (hn : 0 < xs.length) (hl : xs.length ≤ 1099511627776) (hlc : xs.length ≤ c) : Calls Try.prog 41 #[.slice A xs.length c] W fun e W' => e = .returned (.tuple #[.slice (cutA A c 1 1) xs.tail.length (c - 1), .int .i64 (rdI xs 0), .bool true]) ∧ St W (owns []) W' [] := by
  have HS : St W (owns []) W [] := St.start W _
  refine calls_enter [.slice A xs.length c, undef, undef, undef, undef, undef, undef, undef, undef, undef, undef, undef, undef, undef] Try.func41 rfl (by kernel_rfl) ?_
  refine wp_seq ?_
  refine wp_region_lit ?_
  refine ql (.slice none 0 0) (by kernel_rfl) (by kernel_rfl) ?_
  refine ql (.int .i64 0) (by kernel_rfl) (by kernel_rfl) ?_
  refine ql (.bool false) (by kernel_rfl) (by kernel_rfl) ?_
  refine wpList_nil ?_
  refine x_then ?_
  refine wp_seq ?_
  refine wp_seq ?_
  refine wp_region_lit ?_
  refine ql (.slice A xs.length c) (by kernel_rfl) (by kernel_rfl) ?_
  refine ql (.int .i64 (xs.length : Int)) (by kernel_rfl) (by kernel_rfl) ?_
  refine ql (.bool false) (by kernel_rfl) (R_beq (b := ((xs.length : Int) == (0 : Int))) (by kernel_rfl) (beq_f (by omega))) ?_
  refine wpList_nil ?_
  refine x_then ?_
  refine wp_cond_false (by kernel_rfl) ?_
  refine wp_skip ?_
  refine x_then ?_
  refine wp_seq ?_
  refine rg_still HS 7 (by kernel_rfl) (by kernel_rfl) ?_
  intro W1 H_ HK_
  simp only [List.take_succ_cons, List.take_zero, List.drop_succ_cons, List.drop_zero]
  replace HS : St W (owns []) W1 [] := H_
  clear H_
  clear HK_
  refine qs (.slice A xs.length c) (by kernel_rfl) (by kernel_rfl) ?_
  refine qs (.slice (cutA A c 1 1) (xs.length - 1) (c - 1)) (by kernel_rfl) (R_sliceL (k := .i64) (A := A) (n := xs.length) (c := c) (i := 1) (by kernel_rfl) (by kernel_rfl) Try.underlying49 (by kernel_rfl) (by omega) (by omega)) ?_
  refine qs (.slice A xs.length c) (by kernel_rfl) (by kernel_rfl) ?_
  obtain ⟨ad2, rfl⟩ := Rd.isSome_ hr (by rw [ci_len]; omega)
  refine qs (.pointer (some (ad2.add 0))) (by kernel_rfl) (R_indexA1 (k := .i64) (p := ad2) (n := xs.length) (c := c) (i := 0) (by kernel_rfl) (by kernel_rfl) Try.underlying49 (by kernel_rfl) (by omega) (by omega)) ?_
  refine qs (.int .i64 (rdI xs 0)) (by kernel_rfl) (R_load (p := ad2.add 0) (by kernel_rfl) (by kernel_rfl) (by kernel_rfl) (HS.old0 (hr.at_ (ci_rd (i := 0) (by omega) (by omega))))) ?_
  refine qs (.slice (cutA (some ad2) c 1 1) (xs.length - 1) (c - 1)) (by kernel_rfl) (by kernel_rfl) ?_
  refine qs (.int .i64 (rdI xs 0)) (by kernel_rfl) (by kernel_rfl) ?_
  refine wpStill_nil ?_
  refine ql (.bool true) (by kernel_rfl) (by kernel_rfl) ?_
  refine wpList_nil ?_
  refine x_then ?_
  refine wp_ret ?_
  refine ret_ (.tuple #[.slice (cutA (some ad2) c 1 1) (xs.length - 1) (c - 1), .int .i64 (rdI xs 0), .bool true]) (by kernel_rfl) ?_
  exact ⟨by rw [List.length_tail], HS⟩

open Classical in
set_option maxRecDepth 100000 in
set_option maxHeartbeats 1000000 in
theorem rhas (A : Option Addr) (c : Nat) (xs : List Int) (v : Int) (W : World) (hr : Rd W A (ci .i64 xs)) (hl : xs.length ≤ 1099511627776) : Calls Try.prog 39 #[.slice A xs.length c, .int .i64 v] W fun e W' => e = .returned (.bool (decide (v ∈ xs))) ∧ St W (owns []) W' [] := by
  have HS : St W (owns []) W [] := St.start W _
  refine calls_enter [.slice A xs.length c, .int .i64 v, undef, undef, undef, undef, undef, undef, undef, undef, undef, undef, undef, undef, undef, undef, undef, undef] Try.func39 rfl (by kernel_rfl) ?_
  refine wp_seq ?_
  refine wp_region_lit ?_
  refine ql (.bool false) (by kernel_rfl) (by kernel_rfl) ?_
  refine wpList_nil ?_
  refine x_then ?_
  refine wp_seq ?_
  refine wp_seq ?_
  refine wp_region_lit ?_
  refine ql (.int .i64 0) (by kernel_rfl) (by kernel_rfl) ?_
  refine wpList_nil ?_
  refine x_then ?_
  refine wp_block ?_
  refine wp_loop_ghost (fun kq a' w' => ∃ (J1 : Nat → Value) (i : Int) , a' = Fr [.slice A xs.length c, .int .i64 v, undef, undef, (J1 4), .int .i64 i, (J1 6), (J1 7), (J1 8), (J1 9), (J1 10), (J1 11), (J1 12), (J1 13), (J1 14), (J1 15), (J1 16), (J1 17)] ∧ kq = (xs.length - (i).toNat) ∧ (0 ≤ i) ∧ (i ≤ xs.length) ∧ (v ∉ xs.take (i).toNat) ∧ St W (owns []) w' []) (xs.length - ((0 : Int)).toNat) ⟨(fun k_ : Nat => List.getD [.slice A xs.length c, .int .i64 v, undef, undef, .bool false, .int .i64 0, undef, undef, undef, undef, undef, undef, undef, undef, undef, undef, undef, undef] k_ undef), (0 : Int), congrArg Fr (by kernel_rfl), rfl, by omega, by omega, by simp, HS⟩ ?_
  clear HS
  intro kq2 a' W3 hrel
  obtain ⟨J1, i, rfl, hk, i0, i1, hn, HS⟩ := hrel
  refine wp_seq ?_
  refine wp_seq ?_
  refine wp_region_lit ?_
  refine ql (.int .i64 i) (by kernel_rfl) (by kernel_rfl) ?_
  refine ql (.slice A xs.length c) (by kernel_rfl) (by kernel_rfl) ?_
  refine ql (.int .i64 (xs.length : Int)) (by kernel_rfl) (by kernel_rfl) ?_
  by_cases hc4 : i < (xs.length : Int)
  · skip
    refine ql (.bool true) (by kernel_rfl) (R_bool (p := i < (xs.length : Int)) (by kernel_rfl) (hc4)) ?_
    refine wpList_nil ?_
    refine x_then ?_
    refine wp_cond_true (by kernel_rfl) ?_
    refine wp_skip ?_
    refine x_then ?_
    refine wp_seq ?_
    refine wp_block ?_
    refine wp_seq ?_
    refine wp_region_lit ?_
    refine ql (.slice A xs.length c) (by kernel_rfl) (by kernel_rfl) ?_
    refine ql (.int .i64 i) (by kernel_rfl) (by kernel_rfl) ?_
    obtain ⟨ad5, rfl⟩ := Rd.isSome_ hr (by rw [ci_len]; omega)
    refine ql (.pointer (some (ad5.add i.toNat))) (by kernel_rfl) (R_indexA1 (k := .i64) (p := ad5) (n := xs.length) (c := c) (i := i) (by kernel_rfl) (by kernel_rfl) Try.underlying49 (by kernel_rfl) (by omega) (by omega)) ?_
    refine ql (.int .i64 (rdI xs i)) (by kernel_rfl) (R_load (p := ad5.add i.toNat) (by kernel_rfl) (by kernel_rfl) (by kernel_rfl) (HS.old0 (hr.at_ (ci_rd (i := i) (by omega) (by omega))))) ?_
    refine ql (.int .i64 v) (by kernel_rfl) (by kernel_rfl) ?_
    by_cases hc6 : (rdI xs i) = v
    · skip
      refine ql (.bool true) (by kernel_rfl) (R_beq (b := (rdI xs i == v)) (by kernel_rfl) (beq_t (hc6))) ?_
      refine wpList_nil ?_
      refine x_then ?_
      refine wp_cond_true (by kernel_rfl) ?_
      refine wp_seq ?_
      refine wp_region_lit ?_
      refine ql (.bool true) (by kernel_rfl) (by kernel_rfl) ?_
      refine wpList_nil ?_
      refine x_then ?_
      refine wp_ret ?_
      refine x_inbR ?_
      refine x_thenR ?_
      refine x_thenR ?_
      refine x_inbR ?_
      refine x_thenR ?_
      refine ret_ (.bool true) (by kernel_rfl) ?_
      have hm : v ∈ xs := by have := List.mem_of_getElem? (rdI_eq (xs := xs) i0 (by omega)); rwa [hc6] at this
      exact ⟨by rw [decide_eq_true hm], HS⟩
    · skip
      refine ql (.bool false) (by kernel_rfl) (R_beq (b := (rdI xs i == v)) (by kernel_rfl) (beq_f (hc6))) ?_
      refine wpList_nil ?_
      refine x_then ?_
      refine wp_cond_false (by kernel_rfl) ?_
      refine wp_skip ?_
      refine x_inb ?_
      refine x_then ?_
      refine wp_region_lit ?_
      refine ql (.int .i64 i) (by kernel_rfl) (by kernel_rfl) ?_
      refine ql (.int .i64 (i + 1)) (by kernel_rfl) (R_int (by kernel_rfl) (w64 (by omega))) ?_
      refine ql (.int .i64 (i + 1)) (by kernel_rfl) (by kernel_rfl) ?_
      refine wpList_nil ?_
      have hst : v ∉ xs.take (i + 1).toNat := by rw [take_rd (xs := xs) i0 (by omega)]; intro h9; rcases List.mem_append.1 h9 with h8 | h8; exact hn h8; rw [List.mem_singleton] at h8; omega
      refine x_then ?_
      exact ⟨xs.length - (i + 1).toNat, by omega, (fun k_ : Nat => List.getD [.slice (some ad5) xs.length c, .int .i64 v, undef, undef, (J1 4), .int .i64 (i + 1), .int .i64 i, .slice (some ad5) xs.length c, .int .i64 (xs.length : Int), .bool true, .int .i64 i, .int .i64 (i + 1), .slice (some ad5) xs.length c, .int .i64 i, .pointer (some (ad5.add i.toNat)), .int .i64 (rdI xs i), .int .i64 v, .bool false] k_ undef), i + 1, congrArg Fr (by kernel_rfl), rfl, by omega, by omega, hst, HS⟩
  · skip
    refine ql (.bool false) (by kernel_rfl) (R_nbool (p := i < (xs.length : Int)) (by kernel_rfl) (hc4)) ?_
    refine wpList_nil ?_
    refine x_then ?_
    refine wp_cond_false (by kernel_rfl) ?_
    refine wp_exit ?_
    refine x_thenE ?_
    refine x_thenE ?_
    refine x_hit ?_
    refine x_then ?_
    refine wp_seq ?_
    refine wp_region_lit ?_
    refine ql (.bool false) (by kernel_rfl) (by kernel_rfl) ?_
    refine wpList_nil ?_
    refine x_then ?_
    refine wp_ret ?_
    refine ret_ (.bool false) (by kernel_rfl) ?_
    rw [List.take_of_length_le (by omega)] at hn
    exact ⟨by rw [decide_eq_false hn], HS⟩

theorem rhas_yes (A : Option Addr) (c : Nat) (xs : List Int) (v : Int) (W : World) (hr : Rd W A (ci .i64 xs)) (hl : xs.length ≤ 1099511627776) (h : v ∈ xs) : Calls Try.prog 39 #[.slice A xs.length c, .int .i64 v] W fun e W' => e = .returned (.bool true) ∧ St W (owns []) W' [] := (rhas A c xs v W hr hl).mono fun e W' ⟨he, hs⟩ => ⟨by rw [he, decide_eq_true h], hs⟩
theorem rhas_no (A : Option Addr) (c : Nat) (xs : List Int) (v : Int) (W : World) (hr : Rd W A (ci .i64 xs)) (hl : xs.length ≤ 1099511627776) (h : v ∉ xs) : Calls Try.prog 39 #[.slice A xs.length c, .int .i64 v] W fun e W' => e = .returned (.bool false) ∧ St W (owns []) W' [] := (rhas A c xs v W hr hl).mono fun e W' ⟨he, hs⟩ => ⟨by rw [he, decide_eq_false h], hs⟩

set_option maxRecDepth 100000 in
set_option maxHeartbeats 1000000 in
theorem awake07 (W : World) : Calls Try.prog 35 #[] W fun e W' => e = .returned (.bool true) ∧ St W (owns []) W' [] := by
  have HS : St W (owns []) W [] := St.start W _
  refine calls_enter [undef, undef, undef, undef, undef, undef, undef, undef, undef, undef, undef, undef, undef, undef, undef, undef, undef, undef, undef, undef, undef, undef, undef, undef, undef, undef, undef, undef, undef, undef, undef, undef, undef, undef, undef, undef] Try.func35 rfl (by kernel_rfl) ?_
  refine wp_seq ?_
  refine wp_region_lit ?_
  refine ql (.bool false) (by kernel_rfl) (by kernel_rfl) ?_
  refine wpList_nil ?_
  refine x_then ?_
  refine wp_seq ?_
  refine wp_region_lit ?_
  refine kb HS [.slice none 0 0, .int .i64 0, .int .i64 0, .map none] 116 (fun g => .pointer (some ⟨g, 0, none⟩)) (by kernel_rfl) (by kernel_rfl) ?_
  intro g1 W2 H_
  replace HS : St W (owns []) W2 [blk g1 [.slice none 0 0, .int .i64 0, .int .i64 0, .map none] 116] := H_
  clear H_
  refine wpList_nil ?_
  refine x_then ?_
  refine wp_seq ?_
  replace HS : St W (owns []) W2 [row none 0 0 (cz ([])) 9 1, blk g1 [.slice none 0 0, .int .i64 0, .int .i64 0, .map none] 116] := (HS.nilRow 9 1).cast_ (by kernel_rfl)
  replace HS : St W (owns []) W2 [blk g1 [.slice none 0 0, .int .i64 0, .int .i64 0, .map none] 116, row none 0 0 (cz ([])) 9 1] := HS.perm (perm_ [1, 0] (by kernel_rfl) rfl)
  refine wp_region_lit ?_
  refine qc (f := 78) (args := #[.pointer (some ⟨g1, 0, none⟩), .string (⟨#[97]⟩)]) (by kernel_rfl) (R_call #[.pointer (some ⟨g1, 0, none⟩), .string (⟨#[97]⟩)] Try.func78 (by kernel_rfl) (by kernel_rfl) (by kernel_rfl)) ?_
  refine (wpushS_nil g1 116 none 0 0 0 [] [] (⟨#[97]⟩ : ByteArray) _ _ (St.focus (F := [blk g1 [.slice none 0 0, .int .i64 0, .int .i64 0, .map none] 116, row none 0 0 (cz ([])) 9 1]) HS) RQS.nil (by decide) (by decide)).mono ?_
  rintro e W3 ⟨b, m1, F1, A1, c1, f1, n1, bs1, rfl, H_, hq1, hF1, hm1⟩
  refine ⟨_, rfl, ?_⟩
  replace HS : St W (owns []) W3 [mp Try.prog 9 3 b m1 F1, blk g1 [.slice A1 bs1.length c1, .int .i64 (f1 : Int), .int .i64 (n1 : Int), .map (some b)] 116, row A1 bs1.length c1 (cz bs1) 9 1] := HS.join (F := [blk g1 [.slice none 0 0, .int .i64 0, .int .i64 0, .map none] 116, row none 0 0 (cz ([])) 9 1]) (G := [mp Try.prog 9 3 b m1 F1, blk g1 [.slice A1 bs1.length c1, .int .i64 (f1 : Int), .int .i64 (n1 : Int), .map (some b)] 116, row A1 bs1.length c1 (cz bs1) 9 1]) H_
  clear H_
  refine qc (f := 78) (args := #[.pointer (some ⟨g1, 0, none⟩), .string (⟨#[98]⟩)]) (by kernel_rfl) (R_call #[.pointer (some ⟨g1, 0, none⟩), .string (⟨#[98]⟩)] Try.func78 (by kernel_rfl) (by kernel_rfl) (by kernel_rfl)) ?_
  refine (wpushS_new g1 116 A1 c1 f1 n1 bs1 _ (⟨#[98]⟩ : ByteArray) _ _ b m1 F1 (St.focus (F := [mp Try.prog 9 3 b m1 F1, blk g1 [.slice A1 bs1.length c1, .int .i64 (f1 : Int), .int .i64 (n1 : Int), .map (some b)] 116, row A1 bs1.length c1 (cz bs1) 9 1]) HS) hq1 (by decide) (by decide) (hF1.2 _ (by intro h; injection h with h; revert h; decide)) (by omega)).mono ?_
  rintro e W4 ⟨m2, F2, A2, c2, f2, n2, bs2, rfl, H_, hq2, hF2, hm2⟩
  refine ⟨_, rfl, ?_⟩
  replace HS : St W (owns []) W4 [mp Try.prog 9 3 b m2 F2, blk g1 [.slice A2 bs2.length c2, .int .i64 (f2 : Int), .int .i64 (n2 : Int), .map (some b)] 116, row A2 bs2.length c2 (cz bs2) 9 1] := HS.join (F := [mp Try.prog 9 3 b m1 F1, blk g1 [.slice A1 bs1.length c1, .int .i64 (f1 : Int), .int .i64 (n1 : Int), .map (some b)] 116, row A1 bs1.length c1 (cz bs1) 9 1]) (G := [mp Try.prog 9 3 b m2 F2, blk g1 [.slice A2 bs2.length c2, .int .i64 (f2 : Int), .int .i64 (n2 : Int), .map (some b)] 116, row A2 bs2.length c2 (cz bs2) 9 1]) H_
  clear H_
  refine qc (f := 78) (args := #[.pointer (some ⟨g1, 0, none⟩), .string (⟨#[97]⟩)]) (by kernel_rfl) (R_call #[.pointer (some ⟨g1, 0, none⟩), .string (⟨#[97]⟩)] Try.func78 (by kernel_rfl) (by kernel_rfl) (by kernel_rfl)) ?_
  refine (wpushS_old g1 116 A2 c2 f2 n2 bs2 _ (⟨#[97]⟩ : ByteArray) _ _ b m2 F2 (St.focus (F := [mp Try.prog 9 3 b m2 F2, blk g1 [.slice A2 bs2.length c2, .int .i64 (f2 : Int), .int .i64 (n2 : Int), .map (some b)] 116, row A2 bs2.length c2 (cz bs2) 9 1]) HS) hq2 (by decide) (by decide) ((hF2.2 _ (by intro h; injection h with h; revert h; decide)).trans hF1.1) (by omega)).mono ?_
  rintro e W5 ⟨m3, F3, rfl, H_, hF3, hm3⟩
  refine ⟨_, rfl, ?_⟩
  replace HS : St W (owns []) W5 [mp Try.prog 9 3 b m3 F3, blk g1 [.slice A2 bs2.length c2, .int .i64 (f2 : Int), .int .i64 (n2 : Int), .map (some b)] 116, row A2 bs2.length c2 (cz bs2) 9 1] := HS.join (F := [mp Try.prog 9 3 b m2 F2, blk g1 [.slice A2 bs2.length c2, .int .i64 (f2 : Int), .int .i64 (n2 : Int), .map (some b)] 116, row A2 bs2.length c2 (cz bs2) 9 1]) (G := [mp Try.prog 9 3 b m3 F3, blk g1 [.slice A2 bs2.length c2, .int .i64 (f2 : Int), .int .i64 (n2 : Int), .map (some b)] 116, row A2 bs2.length c2 (cz bs2) 9 1]) H_
  clear H_
  refine ql (.bool true) (by kernel_rfl) (by kernel_rfl) ?_
  refine ql (.bool true) (by kernel_rfl) (by kernel_rfl) ?_
  refine ql (.bool false) (by kernel_rfl) (by kernel_rfl) ?_
  refine wpList_nil ?_
  refine x_then ?_
  refine wp_seq ?_
  refine wp_region_lit ?_
  refine qc (f := 79) (args := #[.pointer (some ⟨g1, 0, none⟩)]) (by kernel_rfl) (R_call #[.pointer (some ⟨g1, 0, none⟩)] Try.func79 (by kernel_rfl) (by kernel_rfl) (by kernel_rfl)) ?_
  refine (wpopS_some g1 116 A2 c2 f2 n2 bs2 _ _ _ b m3 F3 (St.focus (F := [mp Try.prog 9 3 b m3 F3, blk g1 [.slice A2 bs2.length c2, .int .i64 (f2 : Int), .int .i64 (n2 : Int), .map (some b)] 116, row A2 bs2.length c2 (cz bs2) 9 1]) HS) hq2 (by decide) (by decide)).mono ?_
  rintro e W6 ⟨F4, A4, c4, f4, bs4, rfl, H_, hq4, hF4⟩
  refine ⟨_, rfl, ?_⟩
  replace HS : St W (owns []) W6 [mp Try.prog 9 3 b m3 F4, blk g1 [.slice A4 bs4.length c4, .int .i64 (f4 : Int), .int .i64 ((n2 - 1 : Nat) : Int), .map (some b)] 116, row A4 bs4.length c4 (cz bs4) 9 1] := HS.join (F := [mp Try.prog 9 3 b m3 F3, blk g1 [.slice A2 bs2.length c2, .int .i64 (f2 : Int), .int .i64 (n2 : Int), .map (some b)] 116, row A2 bs2.length c2 (cz bs2) 9 1]) (G := [mp Try.prog 9 3 b m3 F4, blk g1 [.slice A4 bs4.length c4, .int .i64 (f4 : Int), .int .i64 ((n2 - 1 : Nat) : Int), .map (some b)] 116, row A4 bs4.length c4 (cz bs4) 9 1]) H_
  clear H_
  refine ql (.tuple #[.string (⟨#[97]⟩), .bool true]) (by kernel_rfl) (by kernel_rfl) ?_
  refine ql (.string (⟨#[97]⟩)) (by kernel_rfl) (by kernel_rfl) ?_
  refine ql (.bool true) (by kernel_rfl) (by kernel_rfl) ?_
  refine ql (.string (⟨#[97]⟩)) (by kernel_rfl) (by kernel_rfl) ?_
  refine ql (.bool true) (by kernel_rfl) (by kernel_rfl) ?_
  refine wpList_nil ?_
  refine x_then ?_
  refine wp_seq ?_
  refine wp_region_lit ?_
  refine ql (.bool true) (by kernel_rfl) (by kernel_rfl) ?_
  refine ql (.bool true) (by kernel_rfl) (by kernel_rfl) ?_
  refine ql (.bool true) (by kernel_rfl) (by kernel_rfl) ?_
  refine ql (.bool true) (by kernel_rfl) (by kernel_rfl) ?_
  refine ql (.bool true) (by kernel_rfl) (by kernel_rfl) ?_
  refine ql (.bool false) (by kernel_rfl) (by kernel_rfl) ?_
  refine ql (.bool true) (by kernel_rfl) (by kernel_rfl) ?_
  refine ql (.bool true) (by kernel_rfl) (by kernel_rfl) ?_
  refine ql (.bool true) (by kernel_rfl) (by kernel_rfl) ?_
  refine ql (.string (⟨#[97]⟩)) (by kernel_rfl) (by kernel_rfl) ?_
  refine ql (.bool true) (by kernel_rfl) (by kernel_rfl) ?_
  refine ql (.bool true) (by kernel_rfl) (by kernel_rfl) ?_
  refine ql (.bool true) (by kernel_rfl) (by kernel_rfl) ?_
  refine ql (.bool true) (by kernel_rfl) (by kernel_rfl) ?_
  refine ql (.bool true) (by kernel_rfl) (by kernel_rfl) ?_
  refine ql (.bool true) (by kernel_rfl) (by kernel_rfl) ?_
  refine qc (f := 78) (args := #[.pointer (some ⟨g1, 0, none⟩), .string (⟨#[97]⟩)]) (by kernel_rfl) (R_call #[.pointer (some ⟨g1, 0, none⟩), .string (⟨#[97]⟩)] Try.func78 (by kernel_rfl) (by kernel_rfl) (by kernel_rfl)) ?_
  refine (wpushS_new g1 116 A4 c4 f4 (n2 - 1) bs4 _ (⟨#[97]⟩ : ByteArray) _ _ b m3 F4 (St.focus (F := [mp Try.prog 9 3 b m3 F4, blk g1 [.slice A4 bs4.length c4, .int .i64 (f4 : Int), .int .i64 ((n2 - 1 : Nat) : Int), .map (some b)] 116, row A4 bs4.length c4 (cz bs4) 9 1]) HS) hq4 (by decide) (by decide) hF4.1 (by omega)).mono ?_
  rintro e W7 ⟨m5, F5, A5, c5, f5, n5, bs5, rfl, H_, hq5, hF5, hm5⟩
  refine ⟨_, rfl, ?_⟩
  replace HS : St W (owns []) W7 [mp Try.prog 9 3 b m5 F5, blk g1 [.slice A5 bs5.length c5, .int .i64 (f5 : Int), .int .i64 (n5 : Int), .map (some b)] 116, row A5 bs5.length c5 (cz bs5) 9 1] := HS.join (F := [mp Try.prog 9 3 b m3 F4, blk g1 [.slice A4 bs4.length c4, .int .i64 (f4 : Int), .int .i64 ((n2 - 1 : Nat) : Int), .map (some b)] 116, row A4 bs4.length c4 (cz bs4) 9 1]) (G := [mp Try.prog 9 3 b m5 F5, blk g1 [.slice A5 bs5.length c5, .int .i64 (f5 : Int), .int .i64 (n5 : Int), .map (some b)] 116, row A5 bs5.length c5 (cz bs5) 9 1]) H_
  clear H_
  refine ql (.bool true) (by kernel_rfl) (by kernel_rfl) ?_
  refine ql (.bool true) (by kernel_rfl) (by kernel_rfl) ?_
  refine qc (f := 80) (args := #[.pointer (some ⟨g1, 0, none⟩)]) (by kernel_rfl) (R_call #[.pointer (some ⟨g1, 0, none⟩)] Try.func80 (by kernel_rfl) (by kernel_rfl) (by kernel_rfl)) ?_
  refine (wlenS g1 n5 _ (HS.cell (i := 1) (j := 2) rfl rfl)).mono ?_
  rintro e W8 ⟨rfl, H_⟩
  refine ⟨_, rfl, ?_⟩
  replace HS : St W (owns []) W8 [mp Try.prog 9 3 b m5 F5, blk g1 [.slice A5 bs5.length c5, .int .i64 (f5 : Int), .int .i64 (n5 : Int), .map (some b)] 116, row A5 bs5.length c5 (cz bs5) 9 1] := HS.join (F := []) (G := []) H_
  clear H_
  refine ql (.bool true) (by kernel_rfl) (R_beq (b := ((n5 : Int) == (2 : Int))) (by kernel_rfl) (beq_t (by have h9 := hq5.len; simp at h9; omega))) ?_
  refine ql (.bool true) (by kernel_rfl) (by kernel_rfl) ?_
  refine ql (.bool true) (by kernel_rfl) (by kernel_rfl) ?_
  refine wpList_nil ?_
  refine x_then ?_
  refine wp_ret ?_
  refine ret_ (.bool true) (by kernel_rfl) ?_
  exact ⟨rfl, HS.tail (F := [mp Try.prog 9 3 b m5 F5, blk g1 [.slice A5 bs5.length c5, .int .i64 (f5 : Int), .int .i64 (n5 : Int), .map (some b)] 116, row A5 bs5.length c5 (cz bs5) 9 1])⟩

end Go.Proofs.Ytnabbhcagonlkaa.GStackTurns
