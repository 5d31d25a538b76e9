/- Written for this claim by gp.py, a program of this session's, over the kit's print. Lean checks it. -/
import Derived.Test.YthfpdpjccnnlhaaGPathShortx0
import Derived.Test.YthfpdpjccnnlhaaGPathShorthx
import Derived.Test.YthfpdpjccnnlhaaGPathShorthspPathShorta
import Derived.Test.YthfpdpjccnnlhaaGPathShorthspPathShortb
import Derived.Test.YthfpdpjccnnlhaaGPathShorthspPathShortc
import Derived.Test.YthfpdpjccnnlhaaGPathShorthspPathShortd
import Derived.WalkKit
import Derived.StillTailTactics
import Derived.Deep.LoopGhost
import Derived.KernelRfl
import Derived.Deep.OwnRows
import Derived.Laws.OwnMore
import Derived.Laws.MakeOwn
import Derived.Maps.AppendAt
import Derived.OrdersHeld
namespace Go.Proofs.Ythfpdpjccnnlhaa.GPathShort
open Go.RowKit Go.Proofs.YthfpdpjccnnlhaaW.PrintWords Go.Proofs.YthfpdpjccnnlhaaW.PrintLast Go.Proofs.YthfpdpjccnnlhaaW.PrintMore
attribute [local go_sem] max2_int min2_int max_two min_two max_three min_three max_four min_four   -- for this text's walks alone
set_option linter.unusedVariables false
set_option linter.unusedSimpArgs false

--import Derived.WalkKit
--import Derived.StillTailTactics
--import Derived.Deep.LoopGhost
--import Derived.KernelRfl
--import Derived.Deep.OwnRows
--import Derived.Laws.OwnMore
--import Derived.Laws.MakeOwn
--import Derived.Maps.AppendAt
--import Derived.OrdersHeld
attribute [local irreducible] wpStill wpList Code.wp TA

set_option maxRecDepth 100000 in
set_option maxHeartbeats 1000000 in
theorem cnan (x : Int) (W : World) : Calls Try.prog 64 #[.int .i64 x] W fun e W' => e = .returned (.bool false) ∧ St W (owns []) W' [] := by
  have HS : St W (owns []) W [] := St.start W _
  refine calls_enter [.int .i64 x, undef, undef, undef, undef, undef] Try.func64 rfl (by kernel_rfl) ?_
  refine wp_seq ?_
  refine wp_region_lit ?_
  refine ql (.bool false) (by kernel_rfl) (by kernel_rfl) ?_
  refine wpList_nil ?_
  refine x_then ?_
  refine wp_seq ?_
  refine wp_region_lit ?_
  refine ql (.int .i64 x) (by kernel_rfl) (by kernel_rfl) ?_
  refine ql (.int .i64 x) (by kernel_rfl) (by kernel_rfl) ?_
  refine ql (.bool false) (by kernel_rfl) (R_beq (b := (x != x)) (by kernel_rfl) (bne_f (by omega))) ?_
  refine ql (.bool false) (by kernel_rfl) (by kernel_rfl) ?_
  refine wpList_nil ?_
  refine x_then ?_
  refine wp_ret ?_
  refine ret_ (.bool false) (by kernel_rfl) ?_
  exact ⟨rfl, HS⟩

set_option maxRecDepth 100000 in
set_option maxHeartbeats 1000000 in
theorem ccmp (x y : Int) (W : World) : Calls Try.prog 62 #[.int .i64 x, .int .i64 y] W fun e W' => e = .returned (.int .i64 (cmpI x y)) ∧ St W (owns []) W' [] := by
  have HS : St W (owns []) W [] := St.start W _
  refine calls_enter [.int .i64 x, .int .i64 y, undef, undef, undef, undef, undef, undef, undef, undef, undef, undef, undef, undef, undef, undef, undef, undef, undef, undef] Try.func62 rfl (by kernel_rfl) ?_
  refine wp_seq ?_
  refine wp_region_lit ?_
  refine ql (.int .i64 0) (by kernel_rfl) (by kernel_rfl) ?_
  refine wpList_nil ?_
  refine x_then ?_
  refine wp_seq ?_
  refine wp_region_lit ?_
  refine ql (.int .i64 x) (by kernel_rfl) (by kernel_rfl) ?_
  refine qc (f := 64) (args := #[.int .i64 x]) (by kernel_rfl) (R_call #[.int .i64 x] Try.func64 (by kernel_rfl) (by kernel_rfl) (by kernel_rfl)) ?_
  refine (cnan x _).mono ?_
  rintro e W1 ⟨rfl, H_⟩
  refine ⟨_, rfl, ?_⟩
  replace HS : St W (owns []) W1 [] := HS.join (F := []) (G := []) H_
  clear H_
  refine ql (.bool false) (by kernel_rfl) (by kernel_rfl) ?_
  refine wpList_nil ?_
  refine x_then ?_
  refine wp_seq ?_
  refine wp_region_lit ?_
  refine ql (.int .i64 y) (by kernel_rfl) (by kernel_rfl) ?_
  refine qc (f := 64) (args := #[.int .i64 y]) (by kernel_rfl) (R_call #[.int .i64 y] Try.func64 (by kernel_rfl) (by kernel_rfl) (by kernel_rfl)) ?_
  refine (cnan y _).mono ?_
  rintro e W2 ⟨rfl, H_⟩
  refine ⟨_, rfl, ?_⟩
  replace HS : St W (owns []) W2 [] := HS.join (F := []) (G := []) H_
  clear H_
  refine ql (.bool false) (by kernel_rfl) (by kernel_rfl) ?_
  refine wpList_nil ?_
  refine x_then ?_
  refine wp_seq ?_
  refine wp_seq ?_
  refine wp_region_lit ?_
  refine ql (.bool false) (by kernel_rfl) (by kernel_rfl) ?_
  refine wpList_nil ?_
  refine x_then ?_
  refine wp_cond_false (by kernel_rfl) ?_
  refine wp_skip ?_
  refine x_then ?_
  refine wp_seq ?_
  refine wp_seq ?_
  refine wp_region_lit ?_
  refine ql (.bool false) (by kernel_rfl) (by kernel_rfl) ?_
  refine wpList_nil ?_
  refine x_then ?_
  refine wp_cond_false (by kernel_rfl) ?_
  refine wp_skip ?_
  refine x_then ?_
  refine wp_seq ?_
  refine wp_seq ?_
  refine wp_region_lit ?_
  refine ql (.int .i64 x) (by kernel_rfl) (by kernel_rfl) ?_
  refine ql (.int .i64 y) (by kernel_rfl) (by kernel_rfl) ?_
  by_cases hc3 : x < y
  · skip
    refine ql (.bool true) (by kernel_rfl) (R_bool (p := x < y) (by kernel_rfl) (hc3)) ?_
    refine wpList_nil ?_
    refine x_then ?_
    refine wp_cond_true (by kernel_rfl) ?_
    refine wp_seq ?_
    refine wp_region_lit ?_
    refine ql (.int .i64 (-1)) (by kernel_rfl) (by kernel_rfl) ?_
    refine wpList_nil ?_
    refine x_then ?_
    refine wp_ret ?_
    refine x_thenR ?_
    refine ret_ (.int .i64 (-1)) (by kernel_rfl) ?_
    have hc_ : cmpI x y = -1 := by unfold cmpI; split <;> (try split) <;> omega
    exact ⟨by rw [hc_], HS⟩
  · skip
    refine ql (.bool false) (by kernel_rfl) (R_nbool (p := x < y) (by kernel_rfl) (hc3)) ?_
    refine wpList_nil ?_
    refine x_then ?_
    refine wp_cond_false (by kernel_rfl) ?_
    refine wp_skip ?_
    refine x_then ?_
    refine wp_seq ?_
    refine wp_seq ?_
    refine wp_region_lit ?_
    refine ql (.int .i64 x) (by kernel_rfl) (by kernel_rfl) ?_
    refine ql (.int .i64 y) (by kernel_rfl) (by kernel_rfl) ?_
    by_cases hc4 : x > y
    · skip
      refine ql (.bool true) (by kernel_rfl) (R_bool (p := x > y) (by kernel_rfl) (hc4)) ?_
      refine wpList_nil ?_
      refine x_then ?_
      refine wp_cond_true (by kernel_rfl) ?_
      refine wp_seq ?_
      refine wp_region_lit ?_
      refine ql (.int .i64 1) (by kernel_rfl) (by kernel_rfl) ?_
      refine wpList_nil ?_
      refine x_then ?_
      refine wp_ret ?_
      refine x_thenR ?_
      refine ret_ (.int .i64 1) (by kernel_rfl) ?_
      have hc_ : cmpI x y = 1 := by unfold cmpI; split <;> (try split) <;> omega
      exact ⟨by rw [hc_], HS⟩
    · skip
      refine ql (.bool false) (by kernel_rfl) (R_nbool (p := x > y) (by kernel_rfl) (hc4)) ?_
      refine wpList_nil ?_
      refine x_then ?_
      refine wp_cond_false (by kernel_rfl) ?_
      refine wp_skip ?_
      refine x_then ?_
      refine wp_seq ?_
      refine wp_region_lit ?_
      refine ql (.int .i64 0) (by kernel_rfl) (by kernel_rfl) ?_
      refine wpList_nil ?_
      refine x_then ?_
      refine wp_ret ?_
      refine ret_ (.int .i64 0) (by kernel_rfl) ?_
      have hc_ : cmpI x y = 0 := by unfold cmpI; split <;> (try split) <;> omega
      exact ⟨by rw [hc_], HS⟩

set_option maxRecDepth 100000 in
set_option maxHeartbeats 1000000 in
theorem ccompare (A B : Option Addr) (n m c d : Nat) (xs ys : List Int) (W : World) (hr : Rd W A (ci .i64 xs)) (hs : Rd W B (ci .i64 ys)) (hn : xs.length = n) (hm : ys.length = m) (hl : xs.length ≤ 1099511627776) (hl2 : ys.length ≤ 1099511627776) : Calls Try.prog 60 #[.slice A n c, .slice B m d] W fun e W' => e = .returned (.int .i64 (lx xs ys)) ∧ St W (owns []) W' [] := by
  have HS : St W (owns []) W [] := St.start W _
  refine calls_enter [.slice A n c, .slice B m d, undef, undef, undef, undef, undef, undef, undef, undef, undef, undef, undef, undef, undef, undef, undef, undef, undef, undef, undef, undef, undef, undef, undef, undef, undef, undef, undef, undef, undef, undef, undef, undef, undef, undef] Try.func60 rfl (by kernel_rfl) ?_
  refine wp_seq ?_
  refine wp_region_lit ?_
  refine ql (.int .i64 0) (by kernel_rfl) (by kernel_rfl) ?_
  refine wpList_nil ?_
  refine x_then ?_
  refine wp_seq ?_
  refine wp_seq ?_
  refine wp_region_lit ?_
  refine ql (.slice A n c) (by kernel_rfl) (by kernel_rfl) ?_
  refine ql (.int .i64 (n : Int)) (by kernel_rfl) (by kernel_rfl) ?_
  refine ql (.int .i64 0) (by kernel_rfl) (by kernel_rfl) ?_
  refine wpList_nil ?_
  refine x_then ?_
  refine wp_block ?_
  refine wp_loop_ghost (fun kq a' w' => ∃ (J1 : Nat → Value) (i : Int) , a' = Fr [.slice A n c, .slice B m d, undef, undef, (J1 4), (J1 5), (J1 6), (J1 7), (J1 8), .slice A n c, .int .i64 (n : Int), .int .i64 i, (J1 12), (J1 13), (J1 14), (J1 15), (J1 16), (J1 17), (J1 18), (J1 19), (J1 20), (J1 21), (J1 22), (J1 23), (J1 24), (J1 25), (J1 26), (J1 27), (J1 28), (J1 29), (J1 30), undef, undef, undef, undef, undef] ∧ kq = (n - (i).toNat) ∧ (0 ≤ i) ∧ (i ≤ n) ∧ (lx xs ys = lx (xs.drop (i).toNat) (ys.drop (i).toNat)) ∧ (i ≤ m) ∧ St W (owns []) w' []) (n - ((0 : Int)).toNat) ⟨(fun k_ : Nat => List.getD [.slice A n c, .slice B m d, undef, undef, .int .i64 0, undef, undef, undef, undef, .slice A n c, .int .i64 (n : Int), .int .i64 0, undef, undef, undef, undef, undef, undef, undef, undef, undef, undef, undef, undef, undef, undef, undef, undef, undef, undef, undef, undef, undef, undef, undef, undef] k_ undef), (0 : Int), congrArg Fr (by kernel_rfl), rfl, by omega, by omega, by rw [Int.toNat_zero, List.drop_zero, List.drop_zero], by omega, HS⟩ ?_
  clear HS
  intro kq2 a' W3 hrel
  obtain ⟨J1, i, rfl, hk, i0, i1, hL, i2, HS⟩ := hrel
  refine wp_seq ?_
  refine wp_region_lit ?_
  by_cases hc4 : i < (n : Int)
  · skip
    refine ql (.bool true) (by kernel_rfl) (R_bool (p := i < (n : Int)) (by kernel_rfl) (hc4)) ?_
    refine wpList_nil ?_
    refine x_then ?_
    refine wp_seq ?_
    refine wp_cond_true (by kernel_rfl) ?_
    refine wp_skip ?_
    refine x_then ?_
    refine wp_seq ?_
    refine wp_block ?_
    refine wp_seq ?_
    refine wp_region_lit ?_
    refine ql (.int .i64 i) (by kernel_rfl) (by kernel_rfl) ?_
    obtain ⟨ad5, rfl⟩ := Rd.isSome_ hr (by rw [ci_len]; omega)
    refine ql (.pointer (some (ad5.add i.toNat))) (by kernel_rfl) (R_indexA1 (k := .i64) (p := ad5) (n := n) (c := c) (i := i) (by kernel_rfl) (by kernel_rfl) Try.underlying28 (by kernel_rfl) (by omega) (by omega)) ?_
    refine ql (.int .i64 (rdI xs i)) (by kernel_rfl) (R_load (p := ad5.add i.toNat) (by kernel_rfl) (by kernel_rfl) (by kernel_rfl) (HS.old0 (hr.at_ (ci_rd (i := i) (by omega) (by omega))))) ?_
    refine ql (.int .i64 i) (by kernel_rfl) (by kernel_rfl) ?_
    refine ql (.int .i64 (rdI xs i)) (by kernel_rfl) (by kernel_rfl) ?_
    refine wpList_nil ?_
    refine x_then ?_
    refine wp_seq ?_
    refine wp_seq ?_
    refine wp_region_lit ?_
    refine ql (.int .i64 i) (by kernel_rfl) (by kernel_rfl) ?_
    refine ql (.slice B m d) (by kernel_rfl) (by kernel_rfl) ?_
    refine ql (.int .i64 (m : Int)) (by kernel_rfl) (by kernel_rfl) ?_
    by_cases hc6 : i ≥ (m : Int)
    · skip
      refine ql (.bool true) (by kernel_rfl) (R_bool (p := i ≥ (m : Int)) (by kernel_rfl) (hc6)) ?_
      refine wpList_nil ?_
      refine x_then ?_
      refine wp_cond_true (by kernel_rfl) ?_
      refine wp_seq ?_
      refine wp_region_lit ?_
      refine ql (.int .i64 1) (by kernel_rfl) (by kernel_rfl) ?_
      refine wpList_nil ?_
      refine x_then ?_
      refine wp_ret ?_
      refine x_thenR ?_
      refine x_inbR ?_
      refine x_thenR ?_
      refine x_thenR ?_
      refine x_inbR ?_
      refine x_thenR ?_
      refine ret_ (.int .i64 1) (by kernel_rfl) ?_
      have hq := lx_long (ys := ys) i0 (by omega : i < xs.length) (by omega)
      exact ⟨by rw [hL, hq], HS⟩
    · skip
      refine ql (.bool false) (by kernel_rfl) (R_nbool (p := i ≥ (m : Int)) (by kernel_rfl) (hc6)) ?_
      refine wpList_nil ?_
      refine x_then ?_
      refine wp_cond_false (by kernel_rfl) ?_
      refine wp_skip ?_
      refine x_then ?_
      refine wp_seq ?_
      refine wp_region_lit ?_
      refine ql (.slice B m d) (by kernel_rfl) (by kernel_rfl) ?_
      refine ql (.int .i64 i) (by kernel_rfl) (by kernel_rfl) ?_
      obtain ⟨ad7, rfl⟩ := Rd.isSome_ hs (by rw [ci_len]; omega)
      refine ql (.pointer (some (ad7.add i.toNat))) (by kernel_rfl) (R_indexA1 (k := .i64) (p := ad7) (n := m) (c := d) (i := i) (by kernel_rfl) (by kernel_rfl) Try.underlying28 (by kernel_rfl) (by omega) (by omega)) ?_
      refine ql (.int .i64 (rdI ys i)) (by kernel_rfl) (R_load (p := ad7.add i.toNat) (by kernel_rfl) (by kernel_rfl) (by kernel_rfl) (HS.old0 (hs.at_ (ci_rd (i := i) (by omega) (by omega))))) ?_
      refine ql (.int .i64 (rdI ys i)) (by kernel_rfl) (by kernel_rfl) ?_
      refine wpList_nil ?_
      refine x_then ?_
      refine wp_seq ?_
      refine wp_region_lit ?_
      refine ql (.int .i64 (rdI xs i)) (by kernel_rfl) (by kernel_rfl) ?_
      refine ql (.int .i64 (rdI ys i)) (by kernel_rfl) (by kernel_rfl) ?_
      refine qc (f := 62) (args := #[.int .i64 (rdI xs i), .int .i64 (rdI ys i)]) (by kernel_rfl) (R_call #[.int .i64 (rdI xs i), .int .i64 (rdI ys i)] Try.func62 (by kernel_rfl) (by kernel_rfl) (by kernel_rfl)) ?_
      refine (ccmp (rdI xs i) (rdI ys i) _).mono ?_
      rintro e W8 ⟨rfl, H_⟩
      refine ⟨_, rfl, ?_⟩
      replace HS : St W (owns []) W8 [] := HS.join (F := []) (G := []) H_
      clear H_
      refine ql (.int .i64 (cmpI (rdI xs i) (rdI ys i))) (by kernel_rfl) (by kernel_rfl) ?_
      refine wpList_nil ?_
      refine x_then ?_
      refine wp_seq ?_
      refine wp_region_lit ?_
      refine ql (.int .i64 (cmpI (rdI xs i) (rdI ys i))) (by kernel_rfl) (by kernel_rfl) ?_
      by_cases hc9 : (cmpI (rdI xs i) (rdI ys i)) = (0 : Int)
      · skip
        refine ql (.bool false) (by kernel_rfl) (R_beq (b := (cmpI (rdI xs i) (rdI ys i) != (0 : Int))) (by kernel_rfl) (bne_f (hc9))) ?_
        refine wpList_nil ?_
        refine x_then ?_
        refine wp_cond_false (by kernel_rfl) ?_
        refine wp_skip ?_
        refine x_inb ?_
        refine x_then ?_
        refine wp_region_lit ?_
        refine ql (.int .i64 (i + 1)) (by kernel_rfl) (R_int (by kernel_rfl) (w64 (by omega))) ?_
        refine ql (.int .i64 (i + 1)) (by kernel_rfl) (by kernel_rfl) ?_
        refine wpList_nil ?_
        have hxy : rdI xs i = rdI ys i := by unfold cmpI at hc9; split at hc9 <;> (try split at hc9) <;> omega
        have hst := lx_step i0 (by omega) (by omega) hxy
        refine x_then ?_
        exact ⟨n - (i + 1).toNat, by omega, (fun k_ : Nat => List.getD [.slice (some ad5) n c, .slice (some ad7) m d, undef, undef, (J1 4), .int .i64 i, .int .i64 (rdI xs i), .int .i64 (rdI ys i), .int .i64 (cmpI (rdI xs i) (rdI ys i)), .slice (some ad5) n c, .int .i64 (n : Int), .int .i64 (i + 1), .bool true, .int .i64 i, .pointer (some (ad5.add i.toNat)), .int .i64 (rdI xs i), .int .i64 i, .slice (some ad7) m d, .int .i64 (m : Int), .bool false, .slice (some ad7) m d, .int .i64 i, .pointer (some (ad7.add i.toNat)), .int .i64 (rdI ys i), .int .i64 (rdI xs i), .int .i64 (rdI ys i), .int .i64 (cmpI (rdI xs i) (rdI ys i)), .int .i64 (cmpI (rdI xs i) (rdI ys i)), .bool false, (J1 29), .int .i64 (i + 1), undef, undef, undef, undef, undef] k_ undef), i + 1, congrArg Fr (by kernel_rfl), rfl, by omega, by omega, hL.trans hst, by omega, HS⟩
      · skip
        refine ql (.bool true) (by kernel_rfl) (R_beq (b := (cmpI (rdI xs i) (rdI ys i) != (0 : Int))) (by kernel_rfl) (bne_t (hc9))) ?_
        refine wpList_nil ?_
        refine x_then ?_
        refine wp_cond_true (by kernel_rfl) ?_
        refine wp_seq ?_
        refine wp_region_lit ?_
        refine ql (.int .i64 (cmpI (rdI xs i) (rdI ys i))) (by kernel_rfl) (by kernel_rfl) ?_
        refine ql (.int .i64 (cmpI (rdI xs i) (rdI ys i))) (by kernel_rfl) (by kernel_rfl) ?_
        refine wpList_nil ?_
        refine x_then ?_
        refine wp_ret ?_
        refine x_inbR ?_
        refine x_thenR ?_
        refine x_thenR ?_
        refine x_inbR ?_
        refine x_thenR ?_
        refine ret_ (.int .i64 (cmpI (rdI xs i) (rdI ys i))) (by kernel_rfl) ?_
        have hq : lx (xs.drop i.toNat) (ys.drop i.toNat) = cmpI (rdI xs i) (rdI ys i) := by
            unfold cmpI
            unfold cmpI at hc9
            by_cases h1 : rdI xs i < rdI ys i
            · rw [if_pos h1]; exact lx_lt i0 (by omega) (by omega) h1
            · by_cases h2 : rdI ys i < rdI xs i
              · rw [if_neg h1, if_pos h2]; exact lx_gt i0 (by omega) (by omega) h2
              · rw [if_neg h1, if_neg h2] at hc9; exact absurd rfl hc9
        exact ⟨by rw [hL, hq], HS⟩
  · skip
    refine ql (.bool false) (by kernel_rfl) (R_nbool (p := i < (n : Int)) (by kernel_rfl) (hc4)) ?_
    refine wpList_nil ?_
    refine x_then ?_
    refine wp_seq ?_
    refine wp_cond_false (by kernel_rfl) ?_
    refine wp_exit ?_
    refine x_thenE ?_
    refine x_thenE ?_
    refine x_hit ?_
    refine x_then ?_
    refine wp_seq ?_
    refine wp_seq ?_
    refine wp_region_lit ?_
    refine ql (.slice A n c) (by kernel_rfl) (by kernel_rfl) ?_
    refine ql (.int .i64 (n : Int)) (by kernel_rfl) (by kernel_rfl) ?_
    refine ql (.slice B m d) (by kernel_rfl) (by kernel_rfl) ?_
    refine ql (.int .i64 (m : Int)) (by kernel_rfl) (by kernel_rfl) ?_
    by_cases hc10 : (n : Int) < (m : Int)
    · skip
      refine ql (.bool true) (by kernel_rfl) (R_bool (p := (n : Int) < (m : Int)) (by kernel_rfl) (hc10)) ?_
      refine wpList_nil ?_
      refine x_then ?_
      refine wp_cond_true (by kernel_rfl) ?_
      refine wp_seq ?_
      refine wp_region_lit ?_
      refine ql (.int .i64 (-1)) (by kernel_rfl) (by kernel_rfl) ?_
      refine wpList_nil ?_
      refine x_then ?_
      refine wp_ret ?_
      refine x_thenR ?_
      refine ret_ (.int .i64 (-1)) (by kernel_rfl) ?_
      have hq := lx_end (xs := xs) (ys := ys) i0 (by omega)
      rw [if_pos (by omega)] at hq
      exact ⟨by rw [hL, hq], HS⟩
    · skip
      refine ql (.bool false) (by kernel_rfl) (R_nbool (p := (n : Int) < (m : Int)) (by kernel_rfl) (hc10)) ?_
      refine wpList_nil ?_
      refine x_then ?_
      refine wp_cond_false (by kernel_rfl) ?_
      refine wp_skip ?_
      refine x_then ?_
      refine wp_seq ?_
      refine wp_region_lit ?_
      refine ql (.int .i64 0) (by kernel_rfl) (by kernel_rfl) ?_
      refine wpList_nil ?_
      refine x_then ?_
      refine wp_ret ?_
      refine ret_ (.int .i64 0) (by kernel_rfl) ?_
      have hq := lx_end (xs := xs) (ys := ys) i0 (by omega)
      rw [if_neg (by omega)] at hq
      exact ⟨by rw [hL, hq], HS⟩

set_option maxRecDepth 100000 in
set_option maxHeartbeats 1000000 in
theorem crev (A : Option Addr) (n c : Nat) (xs : List Int) (W : World) (M : Nat → Prop) (HS : St W M W [row A n c (ci .i64 xs) 3 1]) (hn : xs.length = n) (hl : n ≤ 1099511627776) : Calls Try.prog 57 #[.slice A n c] W fun e W' => e = .returned (.tuple #[]) ∧ St W M W' [row A n c (ci .i64 xs.reverse) 3 1] := by
  refine calls_enter [.slice A n c, undef, undef, undef, undef, undef, undef, undef, undef, undef, undef, undef, undef, undef, undef, undef, undef, undef, undef, undef, undef, undef, undef, undef, undef, undef, undef, undef] Try.func57 rfl (by kernel_rfl) ?_
  refine wp_seq ?_
  refine wp_region_lit ?_
  refine ql (.slice A n c) (by kernel_rfl) (by kernel_rfl) ?_
  refine ql (.int .i64 (n : Int)) (by kernel_rfl) (by kernel_rfl) ?_
  refine ql (.int .i64 ((n : Int) - 1)) (by kernel_rfl) (R_int (by kernel_rfl) (w64 (by omega))) ?_
  refine ql (.int .i64 0) (by kernel_rfl) (by kernel_rfl) ?_
  refine ql (.int .i64 ((n : Int) - 1)) (by kernel_rfl) (by kernel_rfl) ?_
  refine wpList_nil ?_
  refine x_then ?_
  refine wp_block ?_
  refine wp_loop_ghost (fun kq a' w' => ∃ (J1 : Nat → Value) (i : Int) (j : Int) (ys : List Int) , a' = Fr [.slice A n c, undef, .int .i64 i, .int .i64 j, .slice A n c, .int .i64 (n : Int), .int .i64 ((n : Int) - 1), (J1 7), (J1 8), (J1 9), (J1 10), (J1 11), (J1 12), (J1 13), (J1 14), (J1 15), (J1 16), (J1 17), (J1 18), (J1 19), (J1 20), (J1 21), (J1 22), (J1 23), (J1 24), (J1 25), (J1 26), (J1 27)] ∧ kq = ((j - i + 1).toNat) ∧ (0 ≤ i) ∧ (i + j = (xs.length : Int) - 1) ∧ (i ≤ j + 1) ∧ (Rv xs ys i j) ∧ ((ys).length = n) ∧ St W M w' [row A n c (ci .i64 ys) 3 1]) ((((n : Int) - 1) - (0 : Int) + 1).toNat) ⟨(fun k_ : Nat => List.getD [.slice A n c, undef, .int .i64 0, .int .i64 ((n : Int) - 1), .slice A n c, .int .i64 (n : Int), .int .i64 ((n : Int) - 1), undef, undef, undef, undef, undef, undef, undef, undef, undef, undef, undef, undef, undef, undef, undef, undef, undef, undef, undef, undef, undef] k_ undef), (0 : Int), (n : Int) - 1, xs, congrArg Fr (by kernel_rfl), rfl, by omega, by omega, by omega, by rw [← hn]; exact rv_start xs, hn, HS⟩ ?_
  clear HS
  intro kq2 a' W3 hrel
  obtain ⟨J1, i, j, ys, rfl, hk, i0, hij, h9, hR, hyl, HS⟩ := hrel
  refine wp_seq ?_
  refine wp_seq ?_
  refine wp_region_lit ?_
  refine ql (.int .i64 i) (by kernel_rfl) (by kernel_rfl) ?_
  refine ql (.int .i64 j) (by kernel_rfl) (by kernel_rfl) ?_
  by_cases hc4 : i < j
  · skip
    refine ql (.bool true) (by kernel_rfl) (R_bool (p := i < j) (by kernel_rfl) (hc4)) ?_
    refine wpList_nil ?_
    refine x_then ?_
    refine wp_cond_true (by kernel_rfl) ?_
    refine wp_skip ?_
    refine x_then ?_
    refine wp_seq ?_
    refine wp_block ?_
    refine t_start HS (fun k_ => (row A n c (ci .i64 ys) 3 1).own k_) 16 (by kernel_rfl) rfl ?_
    intro W5 H_ HD_
    clear HD_
    replace HS : St W M W5 [row A n c (ci .i64 ys) 3 1] := H_
    clear H_
    have HV := HS
    have HK := Kpt.refl (fun k_ => (row A n c (ci .i64 ys) 3 1).own k_) W5
    refine t_q (n := 15) 0 (.slice A n c) rfl (by kernel_rfl) (by kernel_rfl) (fun _ _ _ h => h) (fun w' hk => (by kernel_rfl)) HK ?_
    refine t_q (n := 14) 1 (.int .i64 i) rfl (by kernel_rfl) (by kernel_rfl) (fun _ _ _ h => h) (fun w' hk => (by kernel_rfl)) HK ?_
    refine t_q (n := 13) 2 (.slice A n c) rfl (by kernel_rfl) (by kernel_rfl) (fun _ _ _ h => h) (fun w' hk => (by kernel_rfl)) HK ?_
    refine t_q (n := 12) 3 (.int .i64 j) rfl (by kernel_rfl) (by kernel_rfl) (fun _ _ _ h => h) (fun w' hk => (by kernel_rfl)) HK ?_
    refine t_q (n := 11) 4 (.slice A n c) rfl (by kernel_rfl) (by kernel_rfl) (fun _ _ _ h => h) (fun w' hk => (by kernel_rfl)) HK ?_
    refine t_q (n := 10) 5 (.int .i64 j) rfl (by kernel_rfl) (by kernel_rfl) (fun _ _ _ h => h) (fun w' hk => (by kernel_rfl)) HK ?_
    obtain ⟨g6, rfl⟩ := St.rsome HS (i := 0) rfl (by omega)
    refine t_q (n := 9) 6 (.pointer (some ⟨g6, j.toNat, none⟩)) rfl (by kernel_rfl) (by kernel_rfl) (fun _ _ _ h => h) (fun w' hk => (R_index1 (k := .i64) (g := g6) (n := n) (c := c) (i := j) (by kernel_rfl) (by kernel_rfl) Try.underlying28 (by kernel_rfl) (by omega) (by omega))) HK ?_
    refine t_q (n := 8) 8 (.slice (some ⟨g6, 0, none⟩) n c) rfl (by kernel_rfl) (by kernel_rfl) (fun _ _ _ h => h) (fun w' hk => (by kernel_rfl)) HK ?_
    refine t_q (n := 7) 9 (.int .i64 i) rfl (by kernel_rfl) (by kernel_rfl) (fun _ _ _ h => h) (fun w' hk => (by kernel_rfl)) HK ?_
    refine t_q (n := 6) 10 (.pointer (some ⟨g6, i.toNat, none⟩)) rfl (by kernel_rfl) (by kernel_rfl) (fun _ _ _ h => h) (fun w' hk => (R_index1 (k := .i64) (g := g6) (n := n) (c := c) (i := i) (by kernel_rfl) (by kernel_rfl) Try.underlying28 (by kernel_rfl) (by omega) (by omega))) HK ?_
    refine t_pick2 (n := 5) 7 11 (by kernel_rfl) ?_ ?_
    · skip
      refine t_e2 (n := 5) 7 (.int .i64 (rdI ys j)) rfl (by kernel_rfl) (R_load (p := ⟨g6, j.toNat, none⟩) (by kernel_rfl) (by kernel_rfl) (by kernel_rfl) (HS.rcell (i := 0) rfl (ci_rd (i := j) (by omega) (by omega)))) HK ?_
      refine t_e (n := 4) 11 (.int .i64 (rdI ys i)) rfl (by kernel_rfl) (by kernel_rfl) (R_load (p := ⟨g6, i.toNat, none⟩) (by kernel_rfl) (by kernel_rfl) (by kernel_rfl) (HS.rcell (i := 0) rfl (ci_rd (i := i) (by omega) (by omega)))) HK ?_
      refine t_q (n := 3) 12 (.pointer (some ⟨g6, i.toNat, none⟩)) rfl (by kernel_rfl) (by kernel_rfl) (fun _ _ _ h => h) (fun w' hk => (R_index1 (k := .i64) (g := g6) (n := n) (c := c) (i := i) (by kernel_rfl) (by kernel_rfl) Try.underlying28 (by kernel_rfl) (by omega) (by omega))) HK ?_
      obtain ⟨W7, hrun_, H_, hk_⟩ := ex_kr (P := Try.prog) (ty := 0) (ps := "slices.go:485") (af := #[{ on := 12, ground := Go.Ground.data }, { on := 7, ground := Go.Ground.data }, { on := 0, ground := Go.Ground.phase }, { on := 1, ground := Go.Ground.phase }, { on := 2, ground := (Go.Ground.textOnly Go.Departure.lateStores) }, { on := 3, ground := (Go.Ground.textOnly Go.Departure.lateStores) }, { on := 4, ground := Go.Ground.phase }, { on := 5, ground := Go.Ground.phase }, { on := 6, ground := Go.Ground.phase }, { on := 7, ground := Go.Ground.phase }, { on := 8, ground := (Go.Ground.textOnly Go.Departure.lateStores) }, { on := 9, ground := (Go.Ground.textOnly Go.Departure.lateStores) }, { on := 10, ground := (Go.Ground.textOnly Go.Departure.lateStoresUnsure) }, { on := 11, ground := Go.Ground.phase }]) (gd := none) (t := 3) (x := (Go.Operand.tmp 26)) (y := (Go.Operand.tmp 21)) (v := .int .i64 (rdI ys j)) HS 0 rfl (i.toNat) [.int .i64 (rdI ys j)] (by kernel_rfl) (by kernel_rfl) (by kernel_rfl) (by kernel_rfl) (one_ (by kernel_rfl)) (by rw [ci_len]; first | omega | (simp only [List.length_singleton]; omega))
      replace HK := HK.trans hk_ (fun _ h_ => .inl (row_own h_))
      refine t_s (n := 2) 13 rfl (by kernel_rfl) (by kernel_rfl) hrun_ HK ?_
      clear hk_ hrun_
      obtain ⟨xs8, xs8_⟩ : ∃ z_ : List Int, z_ = (ys).set i.toNat (rdI ys j) := ⟨_, rfl⟩
      replace HS : St W M W7 [row (some ⟨g6, 0, none⟩) n c (ci .i64 xs8) 3 1] := H_.cast_ (by rw [xs8_, ← ci_set]; rfl)
      clear H_
      have xs8l : xs8.length = n := by rw [xs8_, List.length_set]; first | done | omega
      refine t_q (n := 1) 14 (.pointer (some ⟨g6, j.toNat, none⟩)) rfl (by kernel_rfl) (by kernel_rfl) (fun _ _ _ h => h) (fun w' hk => (R_index1 (k := .i64) (g := g6) (n := n) (c := c) (i := j) (by kernel_rfl) (by kernel_rfl) Try.underlying28 (by kernel_rfl) (by omega) (by omega))) HK ?_
      obtain ⟨W9, hrun_, H_, hk_⟩ := ex_kr (P := Try.prog) (ty := 0) (ps := "slices.go:485") (af := #[{ on := 14, ground := Go.Ground.data }, { on := 11, ground := Go.Ground.data }, { on := 13, ground := Go.Ground.chain }, { on := 0, ground := Go.Ground.phase }, { on := 1, ground := Go.Ground.phase }, { on := 2, ground := Go.Ground.phase }, { on := 3, ground := Go.Ground.phase }, { on := 4, ground := Go.Ground.phase }, { on := 5, ground := Go.Ground.phase }, { on := 6, ground := Go.Ground.phase }, { on := 7, ground := Go.Ground.phase }, { on := 8, ground := Go.Ground.phase }, { on := 9, ground := Go.Ground.phase }, { on := 10, ground := Go.Ground.phase }, { on := 11, ground := Go.Ground.phase }, { on := 12, ground := Go.Ground.phase }, { on := 13, ground := Go.Ground.phase }]) (gd := none) (t := 3) (x := (Go.Operand.tmp 27)) (y := (Go.Operand.tmp 25)) (v := .int .i64 (rdI ys i)) HS 0 rfl (j.toNat) [.int .i64 (rdI ys i)] (by kernel_rfl) (by kernel_rfl) (by kernel_rfl) (by kernel_rfl) (one_ (by kernel_rfl)) (by rw [ci_len]; first | omega | (simp only [List.length_singleton]; omega))
      replace HK := HK.trans hk_ (fun _ h_ => .inl (row_own h_))
      refine t_s (n := 0) 15 rfl (by kernel_rfl) (by kernel_rfl) hrun_ HK ?_
      clear hk_ hrun_
      obtain ⟨xs10, xs10_⟩ : ∃ z_ : List Int, z_ = (xs8).set j.toNat (rdI ys i) := ⟨_, rfl⟩
      replace HS : St W M W9 [row (some ⟨g6, 0, none⟩) n c (ci .i64 xs10) 3 1] := H_.cast_ (by rw [xs10_, ← ci_set]; rfl)
      clear H_
      have xs10l : xs10.length = n := by rw [xs10_, List.length_set]; first | done | omega
      refine t_done (by kernel_rfl) ?_
      clear HV HK
      refine x_inb ?_
      refine x_then ?_
      refine wp_region_lit ?_
      refine ql (.int .i64 i) (by kernel_rfl) (by kernel_rfl) ?_
      refine ql (.int .i64 (i + 1)) (by kernel_rfl) (R_int (by kernel_rfl) (w64 (by omega))) ?_
      refine ql (.int .i64 j) (by kernel_rfl) (by kernel_rfl) ?_
      refine ql (.int .i64 (j - 1)) (by kernel_rfl) (R_int (by kernel_rfl) (w64 (by omega))) ?_
      refine ql (.int .i64 (i + 1)) (by kernel_rfl) (by kernel_rfl) ?_
      refine ql (.int .i64 (j - 1)) (by kernel_rfl) (by kernel_rfl) ?_
      refine wpList_nil ?_
      have hst := rv_step hR hij i0 (by omega) xs8_ xs10_
      refine x_then ?_
      exact ⟨((j - 1) - (i + 1) + 1).toNat, by omega, (fun k_ : Nat => List.getD [.slice (some ⟨g6, 0, none⟩) n c, undef, .int .i64 (i + 1), .int .i64 (j - 1), .slice (some ⟨g6, 0, none⟩) n c, .int .i64 (n : Int), .int .i64 ((n : Int) - 1), .int .i64 i, .int .i64 j, .bool true, .int .i64 i, .int .i64 (i + 1), .int .i64 j, .int .i64 (j - 1), .slice (some ⟨g6, 0, none⟩) n c, .int .i64 i, .slice (some ⟨g6, 0, none⟩) n c, .int .i64 j, .slice (some ⟨g6, 0, none⟩) n c, .int .i64 j, .pointer (some ⟨g6, j.toNat, none⟩), .int .i64 (rdI ys j), .slice (some ⟨g6, 0, none⟩) n c, .int .i64 i, .pointer (some ⟨g6, i.toNat, none⟩), .int .i64 (rdI ys i), .pointer (some ⟨g6, i.toNat, none⟩), .pointer (some ⟨g6, j.toNat, none⟩)] k_ undef), i + 1, j - 1, xs10, congrArg Fr (by kernel_rfl), rfl, by omega, by omega, by omega, hst, hst.1.trans hn, HS⟩
    · skip
      refine t_e2 (n := 5) 11 (.int .i64 (rdI ys i)) rfl (by kernel_rfl) (R_load (p := ⟨g6, i.toNat, none⟩) (by kernel_rfl) (by kernel_rfl) (by kernel_rfl) (HS.rcell (i := 0) rfl (ci_rd (i := i) (by omega) (by omega)))) HK ?_
      refine t_e (n := 4) 7 (.int .i64 (rdI ys j)) rfl (by kernel_rfl) (by kernel_rfl) (R_load (p := ⟨g6, j.toNat, none⟩) (by kernel_rfl) (by kernel_rfl) (by kernel_rfl) (HS.rcell (i := 0) rfl (ci_rd (i := j) (by omega) (by omega)))) HK ?_
      refine t_q (n := 3) 12 (.pointer (some ⟨g6, i.toNat, none⟩)) rfl (by kernel_rfl) (by kernel_rfl) (fun _ _ _ h => h) (fun w' hk => (R_index1 (k := .i64) (g := g6) (n := n) (c := c) (i := i) (by kernel_rfl) (by kernel_rfl) Try.underlying28 (by kernel_rfl) (by omega) (by omega))) HK ?_
      obtain ⟨W11, hrun_, H_, hk_⟩ := ex_kr (P := Try.prog) (ty := 0) (ps := "slices.go:485") (af := #[{ on := 12, ground := Go.Ground.data }, { on := 7, ground := Go.Ground.data }, { on := 0, ground := Go.Ground.phase }, { on := 1, ground := Go.Ground.phase }, { on := 2, ground := (Go.Ground.textOnly Go.Departure.lateStores) }, { on := 3, ground := (Go.Ground.textOnly Go.Departure.lateStores) }, { on := 4, ground := Go.Ground.phase }, { on := 5, ground := Go.Ground.phase }, { on := 6, ground := Go.Ground.phase }, { on := 7, ground := Go.Ground.phase }, { on := 8, ground := (Go.Ground.textOnly Go.Departure.lateStores) }, { on := 9, ground := (Go.Ground.textOnly Go.Departure.lateStores) }, { on := 10, ground := (Go.Ground.textOnly Go.Departure.lateStoresUnsure) }, { on := 11, ground := Go.Ground.phase }]) (gd := none) (t := 3) (x := (Go.Operand.tmp 26)) (y := (Go.Operand.tmp 21)) (v := .int .i64 (rdI ys j)) HS 0 rfl (i.toNat) [.int .i64 (rdI ys j)] (by kernel_rfl) (by kernel_rfl) (by kernel_rfl) (by kernel_rfl) (one_ (by kernel_rfl)) (by rw [ci_len]; first | omega | (simp only [List.length_singleton]; omega))
      replace HK := HK.trans hk_ (fun _ h_ => .inl (row_own h_))
      refine t_s (n := 2) 13 rfl (by kernel_rfl) (by kernel_rfl) hrun_ HK ?_
      clear hk_ hrun_
      obtain ⟨xs12, xs12_⟩ : ∃ z_ : List Int, z_ = (ys).set i.toNat (rdI ys j) := ⟨_, rfl⟩
      replace HS : St W M W11 [row (some ⟨g6, 0, none⟩) n c (ci .i64 xs12) 3 1] := H_.cast_ (by rw [xs12_, ← ci_set]; rfl)
      clear H_
      have xs12l : xs12.length = n := by rw [xs12_, List.length_set]; first | done | omega
      refine t_q (n := 1) 14 (.pointer (some ⟨g6, j.toNat, none⟩)) rfl (by kernel_rfl) (by kernel_rfl) (fun _ _ _ h => h) (fun w' hk => (R_index1 (k := .i64) (g := g6) (n := n) (c := c) (i := j) (by kernel_rfl) (by kernel_rfl) Try.underlying28 (by kernel_rfl) (by omega) (by omega))) HK ?_
      obtain ⟨W13, hrun_, H_, hk_⟩ := ex_kr (P := Try.prog) (ty := 0) (ps := "slices.go:485") (af := #[{ on := 14, ground := Go.Ground.data }, { on := 11, ground := Go.Ground.data }, { on := 13, ground := Go.Ground.chain }, { on := 0, ground := Go.Ground.phase }, { on := 1, ground := Go.Ground.phase }, { on := 2, ground := Go.Ground.phase }, { on := 3, ground := Go.Ground.phase }, { on := 4, ground := Go.Ground.phase }, { on := 5, ground := Go.Ground.phase }, { on := 6, ground := Go.Ground.phase }, { on := 7, ground := Go.Ground.phase }, { on := 8, ground := Go.Ground.phase }, { on := 9, ground := Go.Ground.phase }, { on := 10, ground := Go.Ground.phase }, { on := 11, ground := Go.Ground.phase }, { on := 12, ground := Go.Ground.phase }, { on := 13, ground := Go.Ground.phase }]) (gd := none) (t := 3) (x := (Go.Operand.tmp 27)) (y := (Go.Operand.tmp 25)) (v := .int .i64 (rdI ys i)) HS 0 rfl (j.toNat) [.int .i64 (rdI ys i)] (by kernel_rfl) (by kernel_rfl) (by kernel_rfl) (by kernel_rfl) (one_ (by kernel_rfl)) (by rw [ci_len]; first | omega | (simp only [List.length_singleton]; omega))
      replace HK := HK.trans hk_ (fun _ h_ => .inl (row_own h_))
      refine t_s (n := 0) 15 rfl (by kernel_rfl) (by kernel_rfl) hrun_ HK ?_
      clear hk_ hrun_
      obtain ⟨xs14, xs14_⟩ : ∃ z_ : List Int, z_ = (xs12).set j.toNat (rdI ys i) := ⟨_, rfl⟩
      replace HS : St W M W13 [row (some ⟨g6, 0, none⟩) n c (ci .i64 xs14) 3 1] := H_.cast_ (by rw [xs14_, ← ci_set]; rfl)
      clear H_
      have xs14l : xs14.length = n := by rw [xs14_, List.length_set]; first | done | omega
      refine t_done (by kernel_rfl) ?_
      clear HV HK
      refine x_inb ?_
      refine x_then ?_
      refine wp_region_lit ?_
      refine ql (.int .i64 i) (by kernel_rfl) (by kernel_rfl) ?_
      refine ql (.int .i64 (i + 1)) (by kernel_rfl) (R_int (by kernel_rfl) (w64 (by omega))) ?_
      refine ql (.int .i64 j) (by kernel_rfl) (by kernel_rfl) ?_
      refine ql (.int .i64 (j - 1)) (by kernel_rfl) (R_int (by kernel_rfl) (w64 (by omega))) ?_
      refine ql (.int .i64 (i + 1)) (by kernel_rfl) (by kernel_rfl) ?_
      refine ql (.int .i64 (j - 1)) (by kernel_rfl) (by kernel_rfl) ?_
      refine wpList_nil ?_
      have hst := rv_step hR hij i0 (by omega) xs12_ xs14_
      refine x_then ?_
      exact ⟨((j - 1) - (i + 1) + 1).toNat, by omega, (fun k_ : Nat => List.getD [.slice (some ⟨g6, 0, none⟩) n c, undef, .int .i64 (i + 1), .int .i64 (j - 1), .slice (some ⟨g6, 0, none⟩) n c, .int .i64 (n : Int), .int .i64 ((n : Int) - 1), .int .i64 i, .int .i64 j, .bool true, .int .i64 i, .int .i64 (i + 1), .int .i64 j, .int .i64 (j - 1), .slice (some ⟨g6, 0, none⟩) n c, .int .i64 i, .slice (some ⟨g6, 0, none⟩) n c, .int .i64 j, .slice (some ⟨g6, 0, none⟩) n c, .int .i64 j, .pointer (some ⟨g6, j.toNat, none⟩), .int .i64 (rdI ys j), .slice (some ⟨g6, 0, none⟩) n c, .int .i64 i, .pointer (some ⟨g6, i.toNat, none⟩), .int .i64 (rdI ys i), .pointer (some ⟨g6, i.toNat, none⟩), .pointer (some ⟨g6, j.toNat, none⟩)] k_ undef), i + 1, j - 1, xs14, congrArg Fr (by kernel_rfl), rfl, by omega, by omega, by omega, hst, hst.1.trans hn, HS⟩
  · skip
    refine ql (.bool false) (by kernel_rfl) (R_nbool (p := i < j) (by kernel_rfl) (hc4)) ?_
    refine wpList_nil ?_
    refine x_then ?_
    refine wp_cond_false (by kernel_rfl) ?_
    refine wp_exit ?_
    refine x_thenE ?_
    refine x_thenE ?_
    refine x_hit ?_
    refine end_ (.tuple #[]) (by kernel_rfl) ?_
    have hre := rv_end hR hij (by omega) h9
    subst hre
    exact ⟨rfl, HS⟩

set_option maxRecDepth 100000 in
set_option maxHeartbeats 1000000 in
theorem cclone_nil (c : Nat) (W : World) : Calls Try.prog 59 #[.slice none 0 c] W fun e W' => e = .returned (.slice none 0 0) ∧ St W (owns []) W' [] := by
  have HS : St W (owns []) W [] := St.start W _
  refine calls_enter [.slice none 0 c, undef, undef, undef, undef, undef, undef, undef] Try.func59 rfl (by kernel_rfl) ?_
  refine wp_seq ?_
  refine wp_region_lit ?_
  refine ql (.slice none 0 0) (by kernel_rfl) (by kernel_rfl) ?_
  refine wpList_nil ?_
  refine x_then ?_
  refine wp_seq ?_
  refine wp_seq ?_
  refine wp_region_lit ?_
  refine ql (.slice none 0 c) (by kernel_rfl) (by kernel_rfl) ?_
  refine ql (.bool true) (by kernel_rfl) (by kernel_rfl) ?_
  refine wpList_nil ?_
  refine x_then ?_
  refine wp_cond_true (by kernel_rfl) ?_
  refine wp_seq ?_
  refine wp_region_lit ?_
  refine ql (.slice none 0 0) (by kernel_rfl) (by kernel_rfl) ?_
  refine wpList_nil ?_
  refine x_then ?_
  refine wp_ret ?_
  refine x_thenR ?_
  refine ret_ (.slice none 0 0) (by kernel_rfl) ?_
  exact ⟨rfl, HS⟩

set_option maxRecDepth 100000 in
set_option maxHeartbeats 1000000 in
theorem cclone_some (ad : Addr) (c : Nat) (xs : List Int) (W : World) (hr : Rd W (some ad) (ci .i64 xs)) (hl : xs.length ≤ 1099511627776) : Calls Try.prog 59 #[.slice (some ad) xs.length c] W fun e W' => ∃ A' c', e = .returned (.slice A' xs.length c') ∧ St W (owns []) W' [row A' xs.length c' (ci .i64 xs) 3 1] := by
  have HS : St W (owns []) W [] := St.start W _
  refine calls_enter [.slice (some ad) xs.length c, undef, undef, undef, undef, undef, undef, undef] Try.func59 rfl (by kernel_rfl) ?_
  refine wp_seq ?_
  refine wp_region_lit ?_
  refine ql (.slice none 0 0) (by kernel_rfl) (by kernel_rfl) ?_
  refine wpList_nil ?_
  refine x_then ?_
  refine wp_seq ?_
  refine wp_seq ?_
  refine wp_region_lit ?_
  refine ql (.slice (some ad) xs.length c) (by kernel_rfl) (by kernel_rfl) ?_
  refine ql (.bool false) (by kernel_rfl) (by kernel_rfl) ?_
  refine wpList_nil ?_
  refine x_then ?_
  refine wp_cond_false (by kernel_rfl) ?_
  refine wp_skip ?_
  refine x_then ?_
  refine wp_seq ?_
  refine wp_region_lit ?_
  refine kl HS 0 [] 3 1 (by kernel_rfl) (by kernel_rfl) rfl (by decide) ?_
  intro g1 W2 H_
  replace HS : St W (owns []) W2 [row (some ⟨g1, 0, none⟩) 0 0 (ci .i64 ([])) 3 1] := H_.cast_ (by kernel_rfl)
  clear H_
  refine ql (.slice (some ad) xs.length c) (by kernel_rfl) (by kernel_rfl) ?_
  obtain ⟨xs6, xs6_⟩ : ∃ z_ : List Int, z_ = ([]) ++ xs := ⟨_, rfl⟩
  have xs6l : xs6.length = 0 + xs.length := by rw [xs6_, List.length_append] <;> (try simp only [List.length_cons, List.length_nil]) <;> omega
  refine ka1 HS 0 rfl (Src.of_rd' (n := xs.length) (c := c) (z := 1) (hr.old0 HS) (by rw [ci_len]; omega) (by decide) ci_one) [.int .i64 0] 8 xs6.length (ci .i64 xs6) (by omega) (by rw [xs6_, ci_app]) (by kernel_rfl) (by kernel_rfl) (by kernel_rfl) Try.underlying28 (by kernel_rfl) (by kernel_rfl) (by kernel_rfl) (by kernel_rfl) (by decide) (by omega) (by omega) ?_
  intro A3 c4 W5 H_
  replace HS : St W (owns []) W5 [row A3 xs6.length c4 (ci .i64 xs6) 3 1] := H_
  clear H_
  refine ql (.slice A3 xs6.length c4) (by kernel_rfl) (by kernel_rfl) ?_
  refine wpList_nil ?_
  refine x_then ?_
  refine wp_ret ?_
  refine ret_ (.slice A3 xs6.length c4) (by kernel_rfl) ?_
  obtain rfl : xs6 = xs := by rw [xs6_]; simp
  exact ⟨_, _, rfl, HS⟩

theorem cclone (A : Option Addr) (c : Nat) (xs : List Int) (W : World) (hr : Rd W A (ci .i64 xs)) (hl : xs.length ≤ 1099511627776) : Calls Try.prog 59 #[.slice A xs.length c] W fun e W' => ∃ A' c', e = .returned (.slice A' xs.length c') ∧ St W (owns []) W' [row A' xs.length c' (ci .i64 xs) 3 1] := by
  rcases A with _ | ad
  · have h0 : xs = [] := by
      cases xs with
      | nil => rfl
      | cons x xs => obtain ⟨ad, e, _⟩ := hr 0 (.int .i64 x) (by simp [ci]); cases e
    subst h0
    refine (cclone_nil c W).mono ?_
    rintro e W' ⟨he, hs⟩
    exact ⟨none, 0, he, (hs.nilRow 3 1).cast_ (by rw [ci_nil]; rfl)⟩
  · exact cclone_some ad c xs W hr hl

set_option maxRecDepth 100000 in
set_option maxHeartbeats 1000000 in
theorem cless (A B : Option Addr) (c d : Nat) (xs ys : List Int) (W : World) (hr : Rd W A (ci .i64 xs)) (hs : Rd W B (ci .i64 ys)) (hl : xs.length ≤ 1099511627776) (hl2 : ys.length ≤ 1099511627776) : Calls Try.prog 45 #[.slice A xs.length c, .slice B ys.length d] W fun e W' => e = .returned (.bool (decide (lx xs.reverse ys.reverse < 0))) ∧ St W (owns []) W' [] := by
  have HS : St W (owns []) W [] := St.start W _
  refine calls_enter [.slice A xs.length c, .slice B ys.length d, undef, undef, undef, undef, undef, undef, undef, undef, undef, undef, undef, undef, undef, undef, undef, undef, undef] Try.func45 rfl (by kernel_rfl) ?_
  refine wp_seq ?_
  refine wp_region_lit ?_
  refine ql (.bool false) (by kernel_rfl) (by kernel_rfl) ?_
  refine wpList_nil ?_
  refine x_then ?_
  refine wp_seq ?_
  refine wp_region_lit ?_
  refine ql (.slice A xs.length c) (by kernel_rfl) (by kernel_rfl) ?_
  refine qc (f := 59) (args := #[.slice A xs.length c]) (by kernel_rfl) (R_call #[.slice A xs.length c] Try.func59 (by kernel_rfl) (by kernel_rfl) (by kernel_rfl)) ?_
  refine (cclone A c xs _ (hr.old0 HS) (by omega)).mono ?_
  rintro e W1 ⟨A1, c1, rfl, H_⟩
  refine ⟨_, rfl, ?_⟩
  replace HS : St W (owns []) W1 [row A1 xs.length c1 (ci .i64 xs) 3 1] := HS.join (F := []) (G := [row A1 xs.length c1 (ci .i64 xs) 3 1]) H_
  clear H_
  refine ql (.slice B ys.length d) (by kernel_rfl) (by kernel_rfl) ?_
  refine qc (f := 59) (args := #[.slice B ys.length d]) (by kernel_rfl) (R_call #[.slice B ys.length d] Try.func59 (by kernel_rfl) (by kernel_rfl) (by kernel_rfl)) ?_
  refine (cclone B d ys _ (hs.old0 HS) (by omega)).mono ?_
  rintro e W2 ⟨B1, d1, rfl, H_⟩
  refine ⟨_, rfl, ?_⟩
  replace HS : St W (owns []) W2 [row B1 ys.length d1 (ci .i64 ys) 3 1, row A1 xs.length c1 (ci .i64 xs) 3 1] := HS.join (F := []) (G := [row B1 ys.length d1 (ci .i64 ys) 3 1]) H_
  clear H_
  refine ql (.slice A1 xs.length c1) (by kernel_rfl) (by kernel_rfl) ?_
  refine ql (.slice B1 ys.length d1) (by kernel_rfl) (by kernel_rfl) ?_
  refine wpList_nil ?_
  refine x_then ?_
  refine wp_seq ?_
  refine wp_region_lit ?_
  refine ql (.slice A1 xs.length c1) (by kernel_rfl) (by kernel_rfl) ?_
  refine qc (f := 57) (args := #[.slice A1 xs.length c1]) (by kernel_rfl) (R_call #[.slice A1 xs.length c1] Try.func57 (by kernel_rfl) (by kernel_rfl) (by kernel_rfl)) ?_
  replace HS : St W (owns []) W2 [row A1 xs.length c1 (ci .i64 xs) 3 1, row B1 ys.length d1 (ci .i64 ys) 3 1] := HS.perm (perm_ [1, 0] (by kernel_rfl) rfl)
  refine (crev A1 xs.length c1 xs _ _ (St.focus (F := [row A1 xs.length c1 (ci .i64 xs) 3 1]) HS) rfl (by omega)).mono ?_
  rintro e W3 ⟨rfl, H_⟩
  refine ⟨_, rfl, ?_⟩
  replace HS : St W (owns []) W3 [row A1 xs.length c1 (ci .i64 xs.reverse) 3 1, row B1 ys.length d1 (ci .i64 ys) 3 1] := HS.join (F := [row A1 xs.length c1 (ci .i64 xs) 3 1]) (G := [row A1 xs.length c1 (ci .i64 xs.reverse) 3 1]) H_
  clear H_
  refine wpList_nil ?_
  refine x_then ?_
  refine wp_seq ?_
  refine wp_region_lit ?_
  refine ql (.slice B1 ys.length d1) (by kernel_rfl) (by kernel_rfl) ?_
  refine qc (f := 57) (args := #[.slice B1 ys.length d1]) (by kernel_rfl) (R_call #[.slice B1 ys.length d1] Try.func57 (by kernel_rfl) (by kernel_rfl) (by kernel_rfl)) ?_
  replace HS : St W (owns []) W3 [row B1 ys.length d1 (ci .i64 ys) 3 1, row A1 xs.length c1 (ci .i64 xs.reverse) 3 1] := HS.perm (perm_ [1, 0] (by kernel_rfl) rfl)
  refine (crev B1 ys.length d1 ys _ _ (St.focus (F := [row B1 ys.length d1 (ci .i64 ys) 3 1]) HS) rfl (by omega)).mono ?_
  rintro e W4 ⟨rfl, H_⟩
  refine ⟨_, rfl, ?_⟩
  replace HS : St W (owns []) W4 [row B1 ys.length d1 (ci .i64 ys.reverse) 3 1, row A1 xs.length c1 (ci .i64 xs.reverse) 3 1] := HS.join (F := [row B1 ys.length d1 (ci .i64 ys) 3 1]) (G := [row B1 ys.length d1 (ci .i64 ys.reverse) 3 1]) H_
  clear H_
  refine wpList_nil ?_
  refine x_then ?_
  refine wp_seq ?_
  refine wp_region_lit ?_
  refine ql (.slice A1 xs.length c1) (by kernel_rfl) (by kernel_rfl) ?_
  refine ql (.slice B1 ys.length d1) (by kernel_rfl) (by kernel_rfl) ?_
  refine qc (f := 60) (args := #[.slice A1 xs.length c1, .slice B1 ys.length d1]) (by kernel_rfl) (R_call #[.slice A1 xs.length c1, .slice B1 ys.length d1] Try.func60 (by kernel_rfl) (by kernel_rfl) (by kernel_rfl)) ?_
  refine (ccompare A1 B1 _ _ c1 d1 xs.reverse ys.reverse _ (Rd.row HS (i := 1) rfl) (Rd.row HS (i := 0) rfl) List.length_reverse List.length_reverse (by rw [List.length_reverse]; omega) (by rw [List.length_reverse]; omega)).mono ?_
  rintro e W5 ⟨rfl, H_⟩
  refine ⟨_, rfl, ?_⟩
  replace HS : St W (owns []) W5 [row B1 ys.length d1 (ci .i64 ys.reverse) 3 1, row A1 xs.length c1 (ci .i64 xs.reverse) 3 1] := HS.join (F := []) (G := []) H_
  clear H_
  by_cases hc6 : (lx xs.reverse ys.reverse) < (0 : Int)
  · skip
    refine ql (.bool true) (by kernel_rfl) (R_bool (p := (lx xs.reverse ys.reverse) < (0 : Int)) (by kernel_rfl) (hc6)) ?_
    refine ql (.bool true) (by kernel_rfl) (by kernel_rfl) ?_
    refine wpList_nil ?_
    refine x_then ?_
    refine wp_ret ?_
    refine ret_ (.bool true) (by kernel_rfl) ?_
    replace HS := HS.drop1
    replace HS := HS.drop1
    exact ⟨by rw [decide_eq_true hc6], HS⟩
  · skip
    refine ql (.bool false) (by kernel_rfl) (R_nbool (p := (lx xs.reverse ys.reverse) < (0 : Int)) (by kernel_rfl) (hc6)) ?_
    refine ql (.bool false) (by kernel_rfl) (by kernel_rfl) ?_
    refine wpList_nil ?_
    refine x_then ?_
    refine wp_ret ?_
    refine ret_ (.bool false) (by kernel_rfl) ?_
    replace HS := HS.drop1
    replace HS := HS.drop1
    exact ⟨by rw [decide_eq_false hc6], HS⟩

set_option maxRecDepth 100000 in
set_option maxHeartbeats 1000000 in
theorem rless (A B : Option Addr) (c d : Nat) (xs ys : List Int) (W : World) (hr : Rd W A (ci .i64 xs)) (hs : Rd W B (ci .i64 ys)) (hl : xs.length ≤ 1099511627776) (hl2 : ys.length ≤ 1099511627776) : Calls Try.prog 46 #[.slice A xs.length c, .slice B ys.length d] W fun e W' => e = .returned (.bool (decide (lx xs.reverse ys.reverse < 0))) ∧ St W (owns []) W' [] := by
  have HS : St W (owns []) W [] := St.start W _
  have hlx : xs.reverse.length = xs.length := List.length_reverse
  have hly : ys.reverse.length = ys.length := List.length_reverse
  refine calls_enter ((.slice A xs.length c) :: (.slice B ys.length d) :: undef :: undef :: undef :: undef :: undef :: undef :: undef :: undef :: undef :: undef :: undef :: undef :: undef :: undef :: undef :: undef :: undef :: undef :: undef :: undef :: undef :: undef :: undef :: undef :: undef :: undef :: undef :: undef :: undef :: undef :: undef :: undef :: undef :: undef :: undef :: undef :: undef :: undef :: undef :: undef :: undef :: undef :: undef :: undef :: undef :: undef :: undef :: undef :: undef :: undef :: undef :: []) Try.func46 rfl (by kernel_rfl) ?_
  refine wp_seq ?_
  refine wp_region_lit ?_
  refine ql (.bool false) (by kernel_rfl) (by kernel_rfl) ?_
  refine wpList_nil ?_
  refine x_then ?_
  refine wp_seq ?_
  refine wp_seq ?_
  refine wp_region_lit ?_
  refine ql (.int .i64 1) (by kernel_rfl) (by kernel_rfl) ?_
  refine wpList_nil ?_
  refine x_then ?_
  refine wp_block ?_
  refine wp_loop_ghost (fun kq a' w' => ∃ (J1 : Nat → Value) (k : Int) , a' = Fr ((.slice A xs.length c) :: (.slice B ys.length d) :: undef :: undef :: ((J1 4)) :: (.int .i64 k) :: ((J1 6)) :: ((J1 7)) :: ((J1 8)) :: ((J1 9)) :: ((J1 10)) :: ((J1 11)) :: ((J1 12)) :: ((J1 13)) :: ((J1 14)) :: ((J1 15)) :: ((J1 16)) :: ((J1 17)) :: ((J1 18)) :: ((J1 19)) :: ((J1 20)) :: ((J1 21)) :: ((J1 22)) :: ((J1 23)) :: ((J1 24)) :: ((J1 25)) :: ((J1 26)) :: ((J1 27)) :: ((J1 28)) :: ((J1 29)) :: ((J1 30)) :: ((J1 31)) :: ((J1 32)) :: ((J1 33)) :: ((J1 34)) :: ((J1 35)) :: ((J1 36)) :: ((J1 37)) :: ((J1 38)) :: ((J1 39)) :: ((J1 40)) :: ((J1 41)) :: ((J1 42)) :: ((J1 43)) :: ((J1 44)) :: ((J1 45)) :: ((J1 46)) :: ((J1 47)) :: undef :: undef :: undef :: undef :: undef :: []) ∧ kq = ((xs.length + 1 - k).toNat) ∧ (1 ≤ k) ∧ (lx xs.reverse ys.reverse = lx (xs.reverse.drop (k - 1).toNat) (ys.reverse.drop (k - 1).toNat)) ∧ (k ≤ xs.length + 1) ∧ (k ≤ ys.length + 1) ∧ St W (owns []) w' []) ((xs.length + 1 - (1 : Int)).toNat) ⟨(fun k_ : Nat => List.getD ((.slice A xs.length c) :: (.slice B ys.length d) :: undef :: undef :: (.bool false) :: (.int .i64 1) :: undef :: undef :: undef :: undef :: undef :: undef :: undef :: undef :: undef :: undef :: undef :: undef :: undef :: undef :: undef :: undef :: undef :: undef :: undef :: undef :: undef :: undef :: undef :: undef :: undef :: undef :: undef :: undef :: undef :: undef :: undef :: undef :: undef :: undef :: undef :: undef :: undef :: undef :: undef :: undef :: undef :: undef :: undef :: undef :: undef :: undef :: undef :: []) k_ undef), (1 : Int), congrArg Fr (by kernel_rfl), rfl, by omega, by rfl, by omega, by omega, HS⟩ ?_
  clear HS
  intro kq2 a' W3 hrel
  obtain ⟨J1, k, rfl, hk, k1, hL, k2, k3, HS⟩ := hrel
  refine wp_seq ?_
  refine wp_seq ?_
  refine wp_region_lit ?_
  refine ql (.int .i64 k) (by kernel_rfl) (by kernel_rfl) ?_
  refine ql (.slice A xs.length c) (by kernel_rfl) (by kernel_rfl) ?_
  refine ql (.int .i64 (xs.length : Int)) (by kernel_rfl) (by kernel_rfl) ?_
  by_cases hc4 : k ≤ (xs.length : Int)
  · skip
    refine ql (.bool true) (by kernel_rfl) (R_bool (p := k ≤ (xs.length : Int)) (by kernel_rfl) (hc4)) ?_
    refine ql (.bool true) (by kernel_rfl) (by kernel_rfl) ?_
    refine ql (.int .i64 k) (by kernel_rfl) (by kernel_rfl) ?_
    refine ql (.slice B ys.length d) (by kernel_rfl) (by kernel_rfl) ?_
    refine ql (.int .i64 (ys.length : Int)) (by kernel_rfl) (by kernel_rfl) ?_
    by_cases hc5 : k ≤ (ys.length : Int)
    · skip
      refine ql (.bool true) (by kernel_rfl) (R_bool (p := k ≤ (ys.length : Int)) (by kernel_rfl) (hc5)) ?_
      refine ql (.bool true) (by kernel_rfl) (by kernel_rfl) ?_
      refine wpList_nil ?_
      refine x_then ?_
      refine wp_cond_true (by kernel_rfl) ?_
      refine wp_skip ?_
      refine x_then ?_
      refine wp_seq ?_
      refine wp_block ?_
      refine wp_seq ?_
      have hx := rd_rev (xs := xs) (p := k - 1) (by omega) (by omega)
      have hy := rd_rev (xs := ys) (p := k - 1) (by omega) (by omega)
      rw [show (xs.length : Int) - 1 - (k - 1) = (xs.length : Int) - k by omega] at hx
      rw [show (ys.length : Int) - 1 - (k - 1) = (ys.length : Int) - k by omega] at hy
      refine rg_still HS 14 (by kernel_rfl) (by kernel_rfl) ?_
      intro W6 H_ HK_
      simp only [List.take_succ_cons, List.take_zero, List.drop_succ_cons, List.drop_zero]
      replace HS : St W (owns []) W6 [] := H_
      clear H_
      clear HK_
      refine qs (.slice A xs.length c) (by kernel_rfl) (by kernel_rfl) ?_
      refine qs (.slice A xs.length c) (by kernel_rfl) (by kernel_rfl) ?_
      refine qs (.int .i64 (xs.length : Int)) (by kernel_rfl) (by kernel_rfl) ?_
      refine qs (.int .i64 k) (by kernel_rfl) (by kernel_rfl) ?_
      refine qs (.int .i64 ((xs.length : Int) - k)) (by kernel_rfl) (R_int (by kernel_rfl) (w64 (by omega))) ?_
      obtain ⟨ad7, rfl⟩ := Rd.isSome_ hr (by rw [ci_len]; omega)
      refine qs (.pointer (some (ad7.add ((xs.length : Int) - k).toNat))) (by kernel_rfl) (R_indexA1 (k := .i64) (p := ad7) (n := xs.length) (c := c) (i := (xs.length : Int) - k) (by kernel_rfl) (by kernel_rfl) Try.underlying28 (by kernel_rfl) (by omega) (by omega)) ?_
      refine qs (.int .i64 (rdI xs ((xs.length : Int) - k))) (by kernel_rfl) (R_load (p := ad7.add ((xs.length : Int) - k).toNat) (by kernel_rfl) (by kernel_rfl) (by kernel_rfl) (HS.old0 (hr.at_ (ci_rd (i := (xs.length : Int) - k) (by omega) (by omega))))) ?_
      refine qs (.slice B ys.length d) (by kernel_rfl) (by kernel_rfl) ?_
      refine qs (.slice B ys.length d) (by kernel_rfl) (by kernel_rfl) ?_
      refine qs (.int .i64 (ys.length : Int)) (by kernel_rfl) (by kernel_rfl) ?_
      refine qs (.int .i64 k) (by kernel_rfl) (by kernel_rfl) ?_
      refine qs (.int .i64 ((ys.length : Int) - k)) (by kernel_rfl) (R_int (by kernel_rfl) (w64 (by omega))) ?_
      obtain ⟨ad8, rfl⟩ := Rd.isSome_ hs (by rw [ci_len]; omega)
      refine qs (.pointer (some (ad8.add ((ys.length : Int) - k).toNat))) (by kernel_rfl) (R_indexA1 (k := .i64) (p := ad8) (n := ys.length) (c := d) (i := (ys.length : Int) - k) (by kernel_rfl) (by kernel_rfl) Try.underlying28 (by kernel_rfl) (by omega) (by omega)) ?_
      refine qs (.int .i64 (rdI ys ((ys.length : Int) - k))) (by kernel_rfl) (R_load (p := ad8.add ((ys.length : Int) - k).toNat) (by kernel_rfl) (by kernel_rfl) (by kernel_rfl) (HS.old0 (hs.at_ (ci_rd (i := (ys.length : Int) - k) (by omega) (by omega))))) ?_
      refine wpStill_nil ?_
      by_cases hc9 : (rdI xs ((xs.length : Int) - k)) = (rdI ys ((ys.length : Int) - k))
      · skip
        refine ql (.bool false) (by kernel_rfl) (R_beq (b := (rdI xs ((xs.length : Int) - k) != rdI ys ((ys.length : Int) - k))) (by kernel_rfl) (bne_f (hc9))) ?_
        refine wpList_nil ?_
        refine x_then ?_
        refine wp_cond_false (by kernel_rfl) ?_
        refine wp_skip ?_
        refine x_inb ?_
        refine x_then ?_
        refine wp_region_lit ?_
        refine ql (.int .i64 k) (by kernel_rfl) (by kernel_rfl) ?_
        refine ql (.int .i64 (k + 1)) (by kernel_rfl) (R_int (by kernel_rfl) (w64 (by omega))) ?_
        refine ql (.int .i64 (k + 1)) (by kernel_rfl) (by kernel_rfl) ?_
        refine wpList_nil ?_
        have hst := lx_step (xs := xs.reverse) (ys := ys.reverse) (i := k - 1) (by omega) (by omega) (by omega) (by omega)
        rw [show k - 1 + 1 = k + 1 - 1 by omega] at hst
        refine x_then ?_
        exact ⟨(xs.length + 1 - (k + 1)).toNat, by omega, (fun k_ : Nat => List.getD ((.slice (some ad7) xs.length c) :: (.slice (some ad8) ys.length d) :: undef :: undef :: ((J1 4)) :: (.int .i64 (k + 1)) :: (.int .i64 k) :: (.slice (some ad7) xs.length c) :: (.int .i64 (xs.length : Int)) :: (.bool true) :: (.bool true) :: (.int .i64 k) :: (.slice (some ad8) ys.length d) :: (.int .i64 (ys.length : Int)) :: (.bool true) :: (.bool true) :: (.int .i64 k) :: (.int .i64 (k + 1)) :: (.slice (some ad7) xs.length c) :: (.slice (some ad7) xs.length c) :: (.int .i64 (xs.length : Int)) :: (.int .i64 k) :: (.int .i64 ((xs.length : Int) - k)) :: (.pointer (some (ad7.add ((xs.length : Int) - k).toNat))) :: (.int .i64 (rdI xs ((xs.length : Int) - k))) :: (.slice (some ad8) ys.length d) :: (.slice (some ad8) ys.length d) :: (.int .i64 (ys.length : Int)) :: (.int .i64 k) :: (.int .i64 ((ys.length : Int) - k)) :: (.pointer (some (ad8.add ((ys.length : Int) - k).toNat))) :: (.int .i64 (rdI ys ((ys.length : Int) - k))) :: (.bool false) :: ((J1 33)) :: ((J1 34)) :: ((J1 35)) :: ((J1 36)) :: ((J1 37)) :: ((J1 38)) :: ((J1 39)) :: ((J1 40)) :: ((J1 41)) :: ((J1 42)) :: ((J1 43)) :: ((J1 44)) :: ((J1 45)) :: ((J1 46)) :: ((J1 47)) :: undef :: undef :: undef :: undef :: undef :: []) k_ undef), k + 1, congrArg Fr (by kernel_rfl), rfl, by omega, hL.trans hst, by omega, by omega, HS⟩
      · skip
        refine ql (.bool true) (by kernel_rfl) (R_beq (b := (rdI xs ((xs.length : Int) - k) != rdI ys ((ys.length : Int) - k))) (by kernel_rfl) (bne_t (hc9))) ?_
        refine wpList_nil ?_
        refine x_then ?_
        refine wp_cond_true (by kernel_rfl) ?_
        refine wp_seq ?_
        refine rg_still HS 15 (by kernel_rfl) (by kernel_rfl) ?_
        intro W10 H_ HK_
        simp only [List.take_succ_cons, List.take_zero, List.drop_succ_cons, List.drop_zero]
        replace HS : St W (owns []) W10 [] := H_
        clear H_
        clear HK_
        refine qs (.slice (some ad7) xs.length c) (by kernel_rfl) (by kernel_rfl) ?_
        refine qs (.slice (some ad7) xs.length c) (by kernel_rfl) (by kernel_rfl) ?_
        refine qs (.int .i64 (xs.length : Int)) (by kernel_rfl) (by kernel_rfl) ?_
        refine qs (.int .i64 k) (by kernel_rfl) (by kernel_rfl) ?_
        refine qs (.int .i64 ((xs.length : Int) - k)) (by kernel_rfl) (R_int (by kernel_rfl) (w64 (by omega))) ?_
        refine qs (.pointer (some (ad7.add ((xs.length : Int) - k).toNat))) (by kernel_rfl) (R_indexA1 (k := .i64) (p := ad7) (n := xs.length) (c := c) (i := (xs.length : Int) - k) (by kernel_rfl) (by kernel_rfl) Try.underlying28 (by kernel_rfl) (by omega) (by omega)) ?_
        refine qs (.int .i64 (rdI xs ((xs.length : Int) - k))) (by kernel_rfl) (R_load (p := ad7.add ((xs.length : Int) - k).toNat) (by kernel_rfl) (by kernel_rfl) (by kernel_rfl) (HS.old0 (hr.at_ (ci_rd (i := (xs.length : Int) - k) (by omega) (by omega))))) ?_
        refine qs (.slice (some ad8) ys.length d) (by kernel_rfl) (by kernel_rfl) ?_
        refine qs (.slice (some ad8) ys.length d) (by kernel_rfl) (by kernel_rfl) ?_
        refine qs (.int .i64 (ys.length : Int)) (by kernel_rfl) (by kernel_rfl) ?_
        refine qs (.int .i64 k) (by kernel_rfl) (by kernel_rfl) ?_
        refine qs (.int .i64 ((ys.length : Int) - k)) (by kernel_rfl) (R_int (by kernel_rfl) (w64 (by omega))) ?_
        refine qs (.pointer (some (ad8.add ((ys.length : Int) - k).toNat))) (by kernel_rfl) (R_indexA1 (k := .i64) (p := ad8) (n := ys.length) (c := d) (i := (ys.length : Int) - k) (by kernel_rfl) (by kernel_rfl) Try.underlying28 (by kernel_rfl) (by omega) (by omega)) ?_
        refine qs (.int .i64 (rdI ys ((ys.length : Int) - k))) (by kernel_rfl) (R_load (p := ad8.add ((ys.length : Int) - k).toNat) (by kernel_rfl) (by kernel_rfl) (by kernel_rfl) (HS.old0 (hs.at_ (ci_rd (i := (ys.length : Int) - k) (by omega) (by omega))))) ?_
        by_cases hc11 : (rdI xs ((xs.length : Int) - k)) < (rdI ys ((ys.length : Int) - k))
        · skip
          refine qs (.bool true) (by kernel_rfl) (R_bool (p := (rdI xs ((xs.length : Int) - k)) < (rdI ys ((ys.length : Int) - k))) (by kernel_rfl) (hc11)) ?_
          refine wpStill_nil ?_
          refine ql (.bool true) (by kernel_rfl) (by kernel_rfl) ?_
          refine wpList_nil ?_
          refine x_then ?_
          refine wp_ret ?_
          refine x_inbR ?_
          refine x_thenR ?_
          refine x_thenR ?_
          refine x_inbR ?_
          refine x_thenR ?_
          refine ret_ (.bool true) (by kernel_rfl) ?_
          have hq : lx (xs.reverse.drop (k - 1).toNat) (ys.reverse.drop (k - 1).toNat) = -1 := lx_lt (by omega) (by omega) (by omega) (by omega)
          exact ⟨by rw [decide_eq_true (by rw [hL]; omega)], HS⟩
        · skip
          refine qs (.bool false) (by kernel_rfl) (R_nbool (p := (rdI xs ((xs.length : Int) - k)) < (rdI ys ((ys.length : Int) - k))) (by kernel_rfl) (hc11)) ?_
          refine wpStill_nil ?_
          refine ql (.bool false) (by kernel_rfl) (by kernel_rfl) ?_
          refine wpList_nil ?_
          refine x_then ?_
          refine wp_ret ?_
          refine x_inbR ?_
          refine x_thenR ?_
          refine x_thenR ?_
          refine x_inbR ?_
          refine x_thenR ?_
          refine ret_ (.bool false) (by kernel_rfl) ?_
          have hq : lx (xs.reverse.drop (k - 1).toNat) (ys.reverse.drop (k - 1).toNat) = 1 := lx_gt (by omega) (by omega) (by omega) (by omega)
          exact ⟨by rw [decide_eq_false (by rw [hL]; omega)], HS⟩
    · skip
      refine ql (.bool false) (by kernel_rfl) (R_nbool (p := k ≤ (ys.length : Int)) (by kernel_rfl) (hc5)) ?_
      refine ql (.bool false) (by kernel_rfl) (by kernel_rfl) ?_
      refine wpList_nil ?_
      refine x_then ?_
      refine wp_cond_false (by kernel_rfl) ?_
      refine wp_exit ?_
      refine x_thenE ?_
      refine x_thenE ?_
      refine x_hit ?_
      refine x_then ?_
      refine wp_seq ?_
      refine wp_region_lit ?_
      refine ql (.slice A xs.length c) (by kernel_rfl) (by kernel_rfl) ?_
      refine ql (.int .i64 (xs.length : Int)) (by kernel_rfl) (by kernel_rfl) ?_
      refine ql (.slice B ys.length d) (by kernel_rfl) (by kernel_rfl) ?_
      refine ql (.int .i64 (ys.length : Int)) (by kernel_rfl) (by kernel_rfl) ?_
      by_cases hc12 : (xs.length : Int) < (ys.length : Int)
      · skip
        refine ql (.bool true) (by kernel_rfl) (R_bool (p := (xs.length : Int) < (ys.length : Int)) (by kernel_rfl) (hc12)) ?_
        refine ql (.bool true) (by kernel_rfl) (by kernel_rfl) ?_
        refine wpList_nil ?_
        refine x_then ?_
        refine wp_ret ?_
        refine ret_ (.bool true) (by kernel_rfl) ?_
        have hq : lx (xs.reverse.drop (k - 1).toNat) (ys.reverse.drop (k - 1).toNat) = -1 ∨ lx (xs.reverse.drop (k - 1).toNat) (ys.reverse.drop (k - 1).toNat) = -1 := by
          by_cases h8 : (xs.length : Int) ≤ k - 1
          · have h9 := lx_end (xs := xs.reverse) (ys := ys.reverse) (i := k - 1) (by omega) (by omega)
            by_cases h7 : k - 1 < (ys.reverse.length : Int)
            · rw [if_pos h7] at h9; omega
            · rw [if_neg h7] at h9; omega
          · have h9 := lx_long (xs := xs.reverse) (ys := ys.reverse) (i := k - 1) (by omega) (by omega) (by omega)
            omega
        exact ⟨by rw [decide_eq_true (by rw [hL]; omega)], HS⟩
      · skip
        refine ql (.bool false) (by kernel_rfl) (R_nbool (p := (xs.length : Int) < (ys.length : Int)) (by kernel_rfl) (hc12)) ?_
        refine ql (.bool false) (by kernel_rfl) (by kernel_rfl) ?_
        refine wpList_nil ?_
        refine x_then ?_
        refine wp_ret ?_
        refine ret_ (.bool false) (by kernel_rfl) ?_
        have hq : lx (xs.reverse.drop (k - 1).toNat) (ys.reverse.drop (k - 1).toNat) = 0 ∨ lx (xs.reverse.drop (k - 1).toNat) (ys.reverse.drop (k - 1).toNat) = 1 := by
          by_cases h8 : (xs.length : Int) ≤ k - 1
          · have h9 := lx_end (xs := xs.reverse) (ys := ys.reverse) (i := k - 1) (by omega) (by omega)
            by_cases h7 : k - 1 < (ys.reverse.length : Int)
            · rw [if_pos h7] at h9; omega
            · rw [if_neg h7] at h9; omega
          · have h9 := lx_long (xs := xs.reverse) (ys := ys.reverse) (i := k - 1) (by omega) (by omega) (by omega)
            omega
        exact ⟨by rw [decide_eq_false (by rw [hL]; omega)], HS⟩
  · skip
    refine ql (.bool false) (by kernel_rfl) (R_nbool (p := k ≤ (xs.length : Int)) (by kernel_rfl) (hc4)) ?_
    refine ql (.bool false) (by kernel_rfl) (by kernel_rfl) ?_
    refine qln (by kernel_rfl) ?_
    refine qln (by kernel_rfl) ?_
    refine qln (by kernel_rfl) ?_
    refine qln (by kernel_rfl) ?_
    refine ql (.bool false) (by kernel_rfl) (by kernel_rfl) ?_
    refine wpList_nil ?_
    refine x_then ?_
    refine wp_cond_false (by kernel_rfl) ?_
    refine wp_exit ?_
    refine x_thenE ?_
    refine x_thenE ?_
    refine x_hit ?_
    refine x_then ?_
    refine wp_seq ?_
    refine wp_region_lit ?_
    refine ql (.slice A xs.length c) (by kernel_rfl) (by kernel_rfl) ?_
    refine ql (.int .i64 (xs.length : Int)) (by kernel_rfl) (by kernel_rfl) ?_
    refine ql (.slice B ys.length d) (by kernel_rfl) (by kernel_rfl) ?_
    refine ql (.int .i64 (ys.length : Int)) (by kernel_rfl) (by kernel_rfl) ?_
    by_cases hc13 : (xs.length : Int) < (ys.length : Int)
    · skip
      refine ql (.bool true) (by kernel_rfl) (R_bool (p := (xs.length : Int) < (ys.length : Int)) (by kernel_rfl) (hc13)) ?_
      refine ql (.bool true) (by kernel_rfl) (by kernel_rfl) ?_
      refine wpList_nil ?_
      refine x_then ?_
      refine wp_ret ?_
      refine ret_ (.bool true) (by kernel_rfl) ?_
      have hq : lx (xs.reverse.drop (k - 1).toNat) (ys.reverse.drop (k - 1).toNat) = -1 ∨ lx (xs.reverse.drop (k - 1).toNat) (ys.reverse.drop (k - 1).toNat) = -1 := by
        by_cases h8 : (xs.length : Int) ≤ k - 1
        · have h9 := lx_end (xs := xs.reverse) (ys := ys.reverse) (i := k - 1) (by omega) (by omega)
          by_cases h7 : k - 1 < (ys.reverse.length : Int)
          · rw [if_pos h7] at h9; omega
          · rw [if_neg h7] at h9; omega
        · have h9 := lx_long (xs := xs.reverse) (ys := ys.reverse) (i := k - 1) (by omega) (by omega) (by omega)
          omega
      exact ⟨by rw [decide_eq_true (by rw [hL]; omega)], HS⟩
    · skip
      refine ql (.bool false) (by kernel_rfl) (R_nbool (p := (xs.length : Int) < (ys.length : Int)) (by kernel_rfl) (hc13)) ?_
      refine ql (.bool false) (by kernel_rfl) (by kernel_rfl) ?_
      refine wpList_nil ?_
      refine x_then ?_
      refine wp_ret ?_
      refine ret_ (.bool false) (by kernel_rfl) ?_
      have hq : lx (xs.reverse.drop (k - 1).toNat) (ys.reverse.drop (k - 1).toNat) = 0 ∨ lx (xs.reverse.drop (k - 1).toNat) (ys.reverse.drop (k - 1).toNat) = 1 := by
        by_cases h8 : (xs.length : Int) ≤ k - 1
        · have h9 := lx_end (xs := xs.reverse) (ys := ys.reverse) (i := k - 1) (by omega) (by omega)
          by_cases h7 : k - 1 < (ys.reverse.length : Int)
          · rw [if_pos h7] at h9; omega
          · rw [if_neg h7] at h9; omega
        · have h9 := lx_long (xs := xs.reverse) (ys := ys.reverse) (i := k - 1) (by omega) (by omega) (by omega)
          omega
      exact ⟨by rw [decide_eq_false (by rw [hL]; omega)], HS⟩

def wkN (N : Nat) (arcs : List (Int × Int)) (v : Int) (xs : List Int) : Option Int := if 0 ≤ v ∧ v < N then wk arcs v xs else none
def tup (o : Option Int) : Value := .tuple #[.int .i64 (o.getD 0), .bool o.isSome]

set_option maxRecDepth 100000 in
set_option maxHeartbeats 1000000 in
theorem rwalk_yes (N : Nat) (A : Option Addr) (c : Nat) (arcs : List (Int × Int)) (W : World) (hr : Rd W A (cf arcC arcs)) (hl : arcs.length ≤ 1048576) (hF : Fine N arcs) (L : Option Addr) (cl : Nat) (xs : List Int) (v : Int) (hrl : Rd W L (ci .i64 xs)) (hxl : xs.length ≤ 1099511627776) (hv : 0 ≤ v ∧ v < N) : Calls Try.prog 48 #[.int .i64 (N : Int), .slice A arcs.length c, .int .i64 v, .slice L xs.length cl] W fun e W' => e = .returned (tup (wkN N arcs v xs)) ∧ St W (owns []) W' [] := by
  have HS : St W (owns []) W [] := St.start W _
  refine calls_enter ((.int .i64 (N : Int)) :: (.slice A arcs.length c) :: (.int .i64 v) :: (.slice L xs.length cl) :: undef :: undef :: undef :: undef :: undef :: undef :: undef :: undef :: undef :: undef :: undef :: undef :: undef :: undef :: undef :: undef :: undef :: undef :: undef :: undef :: undef :: undef :: undef :: undef :: undef :: undef :: undef :: undef :: undef :: undef :: undef :: undef :: undef :: undef :: undef :: undef :: undef :: undef :: undef :: undef :: undef :: undef :: undef :: undef :: undef :: undef :: undef :: undef :: undef :: undef :: undef :: undef :: undef :: undef :: undef :: []) Try.func48 rfl (by kernel_rfl) ?_
  refine wp_seq ?_
  refine wp_region_lit ?_
  refine ql (.int .i64 0) (by kernel_rfl) (by kernel_rfl) ?_
  refine ql (.bool false) (by kernel_rfl) (by kernel_rfl) ?_
  refine wpList_nil ?_
  refine x_then ?_
  refine wp_seq ?_
  refine wp_seq ?_
  refine wp_region_lit ?_
  refine ql (.int .i64 v) (by kernel_rfl) (by kernel_rfl) ?_
  refine ql (.bool false) (by kernel_rfl) (R_nbool (p := v < (0 : Int)) (by kernel_rfl) (by omega)) ?_
  refine ql (.bool false) (by kernel_rfl) (by kernel_rfl) ?_
  refine ql (.int .i64 v) (by kernel_rfl) (by kernel_rfl) ?_
  refine ql (.int .i64 (N : Int)) (by kernel_rfl) (by kernel_rfl) ?_
  refine ql (.bool false) (by kernel_rfl) (R_nbool (p := v ≥ (N : Int)) (by kernel_rfl) (by omega)) ?_
  refine ql (.bool false) (by kernel_rfl) (by kernel_rfl) ?_
  refine wpList_nil ?_
  refine x_then ?_
  refine wp_cond_false (by kernel_rfl) ?_
  refine wp_skip ?_
  refine x_then ?_
  refine wp_seq ?_
  refine wp_seq ?_
  refine wp_region_lit ?_
  refine ql (.int .i64 0) (by kernel_rfl) (by kernel_rfl) ?_
  refine wpList_nil ?_
  refine x_then ?_
  refine wp_block ?_
  refine wp_loop_ghost (fun kq a' w' => ∃ (J1 : Nat → Value) (k : Int) (u : Int) , a' = Fr ((.int .i64 (N : Int)) :: (.slice A arcs.length c) :: (.int .i64 u) :: (.slice L xs.length cl) :: undef :: undef :: undef :: undef :: ((J1 8)) :: ((J1 9)) :: (.int .i64 k) :: (.int .i64 v) :: (.bool false) :: (.bool false) :: (.int .i64 v) :: (.int .i64 (N : Int)) :: (.bool false) :: (.bool false) :: ((J1 18)) :: ((J1 19)) :: ((J1 20)) :: ((J1 21)) :: ((J1 22)) :: ((J1 23)) :: ((J1 24)) :: ((J1 25)) :: ((J1 26)) :: ((J1 27)) :: ((J1 28)) :: ((J1 29)) :: ((J1 30)) :: ((J1 31)) :: ((J1 32)) :: ((J1 33)) :: ((J1 34)) :: ((J1 35)) :: ((J1 36)) :: ((J1 37)) :: ((J1 38)) :: ((J1 39)) :: ((J1 40)) :: ((J1 41)) :: ((J1 42)) :: ((J1 43)) :: ((J1 44)) :: ((J1 45)) :: ((J1 46)) :: ((J1 47)) :: ((J1 48)) :: ((J1 49)) :: ((J1 50)) :: ((J1 51)) :: ((J1 52)) :: ((J1 53)) :: ((J1 54)) :: ((J1 55)) :: ((J1 56)) :: ((J1 57)) :: undef :: []) ∧ kq = (xs.length - (k).toNat) ∧ (0 ≤ k) ∧ (k ≤ xs.length) ∧ (wk arcs v xs = wk arcs u (xs.drop (k).toNat)) ∧ St W (owns []) w' []) (xs.length - ((0 : Int)).toNat) ⟨(fun k_ : Nat => List.getD ((.int .i64 (N : Int)) :: (.slice A arcs.length c) :: (.int .i64 v) :: (.slice L xs.length cl) :: undef :: undef :: undef :: undef :: (.int .i64 0) :: (.bool false) :: (.int .i64 0) :: (.int .i64 v) :: (.bool false) :: (.bool false) :: (.int .i64 v) :: (.int .i64 (N : Int)) :: (.bool false) :: (.bool false) :: undef :: undef :: undef :: undef :: undef :: undef :: undef :: undef :: undef :: undef :: undef :: undef :: undef :: undef :: undef :: undef :: undef :: undef :: undef :: undef :: undef :: undef :: undef :: undef :: undef :: undef :: undef :: undef :: undef :: undef :: undef :: undef :: undef :: undef :: undef :: undef :: undef :: undef :: undef :: undef :: undef :: []) k_ undef), (0 : Int), v, congrArg Fr (by kernel_rfl), rfl, by omega, by omega, by rw [Int.toNat_zero, List.drop_zero], HS⟩ ?_
  clear HS
  intro kq2 a' W3 hrel
  obtain ⟨J1, k, u, rfl, hk, k0, k1, hW, HS⟩ := hrel
  refine wp_seq ?_
  refine wp_seq ?_
  refine wp_region_lit ?_
  refine ql (.int .i64 k) (by kernel_rfl) (by kernel_rfl) ?_
  refine ql (.slice L xs.length cl) (by kernel_rfl) (by kernel_rfl) ?_
  refine ql (.int .i64 (xs.length : Int)) (by kernel_rfl) (by kernel_rfl) ?_
  by_cases hc4 : k < (xs.length : Int)
  · skip
    refine ql (.bool true) (by kernel_rfl) (R_bool (p := k < (xs.length : Int)) (by kernel_rfl) (hc4)) ?_
    refine wpList_nil ?_
    refine x_then ?_
    refine wp_cond_true (by kernel_rfl) ?_
    refine wp_skip ?_
    refine x_then ?_
    refine wp_seq ?_
    refine wp_block ?_
    refine wp_seq ?_
    refine wp_seq ?_
    refine wp_region_lit ?_
    refine ql (.slice L xs.length cl) (by kernel_rfl) (by kernel_rfl) ?_
    refine ql (.int .i64 k) (by kernel_rfl) (by kernel_rfl) ?_
    obtain ⟨ad5, rfl⟩ := Rd.isSome_ hrl (by rw [ci_len]; omega)
    refine ql (.pointer (some (ad5.add k.toNat))) (by kernel_rfl) (R_indexA1 (k := .i64) (p := ad5) (n := xs.length) (c := cl) (i := k) (by kernel_rfl) (by kernel_rfl) Try.underlying28 (by kernel_rfl) (by omega) (by omega)) ?_
    refine ql (.int .i64 (rdI xs k)) (by kernel_rfl) (R_load (p := ad5.add k.toNat) (by kernel_rfl) (by kernel_rfl) (by kernel_rfl) (HS.old0 (hrl.at_ (ci_rd (i := k) (by omega) (by omega))))) ?_
    by_cases hc6 : (rdI xs k) < (0 : Int)
    · skip
      refine ql (.bool true) (by kernel_rfl) (R_bool (p := (rdI xs k) < (0 : Int)) (by kernel_rfl) (hc6)) ?_
      refine ql (.bool true) (by kernel_rfl) (by kernel_rfl) ?_
      refine qln (by kernel_rfl) ?_
      refine qln (by kernel_rfl) ?_
      refine qln (by kernel_rfl) ?_
      refine qln (by kernel_rfl) ?_
      refine qln (by kernel_rfl) ?_
      refine qln (by kernel_rfl) ?_
      refine qln (by kernel_rfl) ?_
      refine ql (.bool true) (by kernel_rfl) (by kernel_rfl) ?_
      refine ql (.bool true) (by kernel_rfl) (by kernel_rfl) ?_
      refine qln (by kernel_rfl) ?_
      refine qln (by kernel_rfl) ?_
      refine qln (by kernel_rfl) ?_
      refine qln (by kernel_rfl) ?_
      refine qln (by kernel_rfl) ?_
      refine qln (by kernel_rfl) ?_
      refine qln (by kernel_rfl) ?_
      refine qln (by kernel_rfl) ?_
      refine qln (by kernel_rfl) ?_
      refine qln (by kernel_rfl) ?_
      refine ql (.bool true) (by kernel_rfl) (by kernel_rfl) ?_
      refine wpList_nil ?_
      refine x_then ?_
      refine wp_cond_true (by kernel_rfl) ?_
      refine wp_seq ?_
      refine wp_region_lit ?_
      refine ql (.int .i64 0) (by kernel_rfl) (by kernel_rfl) ?_
      refine ql (.bool false) (by kernel_rfl) (by kernel_rfl) ?_
      refine wpList_nil ?_
      refine x_then ?_
      refine wp_ret ?_
      refine x_thenR ?_
      refine x_inbR ?_
      refine x_thenR ?_
      refine x_thenR ?_
      refine x_inbR ?_
      refine x_thenR ?_
      refine ret_ (.tuple #[.int .i64 0, .bool false]) (by kernel_rfl) ?_
      have hq := wk_none (arcs := arcs) (v := u) (xs := xs) (k := k) k0 (by omega) (by rintro ⟨x1, x2, x3⟩; omega)
      exact ⟨by unfold wkN; rw [if_pos hv, hW, hq]; rfl, HS⟩
    · skip
      refine ql (.bool false) (by kernel_rfl) (R_nbool (p := (rdI xs k) < (0 : Int)) (by kernel_rfl) (hc6)) ?_
      refine ql (.bool false) (by kernel_rfl) (by kernel_rfl) ?_
      refine ql (.slice (some ad5) xs.length cl) (by kernel_rfl) (by kernel_rfl) ?_
      refine ql (.int .i64 k) (by kernel_rfl) (by kernel_rfl) ?_
      refine ql (.pointer (some (ad5.add k.toNat))) (by kernel_rfl) (R_indexA1 (k := .i64) (p := ad5) (n := xs.length) (c := cl) (i := k) (by kernel_rfl) (by kernel_rfl) Try.underlying28 (by kernel_rfl) (by omega) (by omega)) ?_
      refine ql (.int .i64 (rdI xs k)) (by kernel_rfl) (R_load (p := ad5.add k.toNat) (by kernel_rfl) (by kernel_rfl) (by kernel_rfl) (HS.old0 (hrl.at_ (ci_rd (i := k) (by omega) (by omega))))) ?_
      refine ql (.slice A arcs.length c) (by kernel_rfl) (by kernel_rfl) ?_
      refine ql (.int .i64 (arcs.length : Int)) (by kernel_rfl) (by kernel_rfl) ?_
      by_cases hc7 : (rdI xs k) ≥ (arcs.length : Int)
      · skip
        refine ql (.bool true) (by kernel_rfl) (R_bool (p := (rdI xs k) ≥ (arcs.length : Int)) (by kernel_rfl) (hc7)) ?_
        refine ql (.bool true) (by kernel_rfl) (by kernel_rfl) ?_
        refine ql (.bool true) (by kernel_rfl) (by kernel_rfl) ?_
        refine qln (by kernel_rfl) ?_
        refine qln (by kernel_rfl) ?_
        refine qln (by kernel_rfl) ?_
        refine qln (by kernel_rfl) ?_
        refine qln (by kernel_rfl) ?_
        refine qln (by kernel_rfl) ?_
        refine qln (by kernel_rfl) ?_
        refine qln (by kernel_rfl) ?_
        refine qln (by kernel_rfl) ?_
        refine qln (by kernel_rfl) ?_
        refine ql (.bool true) (by kernel_rfl) (by kernel_rfl) ?_
        refine wpList_nil ?_
        refine x_then ?_
        refine wp_cond_true (by kernel_rfl) ?_
        refine wp_seq ?_
        refine wp_region_lit ?_
        refine ql (.int .i64 0) (by kernel_rfl) (by kernel_rfl) ?_
        refine ql (.bool false) (by kernel_rfl) (by kernel_rfl) ?_
        refine wpList_nil ?_
        refine x_then ?_
        refine wp_ret ?_
        refine x_thenR ?_
        refine x_inbR ?_
        refine x_thenR ?_
        refine x_thenR ?_
        refine x_inbR ?_
        refine x_thenR ?_
        refine ret_ (.tuple #[.int .i64 0, .bool false]) (by kernel_rfl) ?_
        have hq := wk_none (arcs := arcs) (v := u) (xs := xs) (k := k) k0 (by omega) (by rintro ⟨x1, x2, x3⟩; omega)
        exact ⟨by unfold wkN; rw [if_pos hv, hW, hq]; rfl, HS⟩
      · skip
        refine ql (.bool false) (by kernel_rfl) (R_nbool (p := (rdI xs k) ≥ (arcs.length : Int)) (by kernel_rfl) (hc7)) ?_
        refine ql (.bool false) (by kernel_rfl) (by kernel_rfl) ?_
        refine ql (.bool false) (by kernel_rfl) (by kernel_rfl) ?_
        refine ql (.slice A arcs.length c) (by kernel_rfl) (by kernel_rfl) ?_
        refine ql (.slice (some ad5) xs.length cl) (by kernel_rfl) (by kernel_rfl) ?_
        refine ql (.int .i64 k) (by kernel_rfl) (by kernel_rfl) ?_
        refine ql (.pointer (some (ad5.add k.toNat))) (by kernel_rfl) (R_indexA1 (k := .i64) (p := ad5) (n := xs.length) (c := cl) (i := k) (by kernel_rfl) (by kernel_rfl) Try.underlying28 (by kernel_rfl) (by omega) (by omega)) ?_
        refine ql (.int .i64 (rdI xs k)) (by kernel_rfl) (R_load (p := ad5.add k.toNat) (by kernel_rfl) (by kernel_rfl) (by kernel_rfl) (HS.old0 (hrl.at_ (ci_rd (i := k) (by omega) (by omega))))) ?_
        obtain ⟨ad8, rfl⟩ := Rd.isSome_ hr (by rw [cf_len (z := 2) (fun _ => rfl)]; omega)
        refine ql (.pointer (some (ad8.add ((rdI xs k).toNat * 2)))) (by kernel_rfl) (R_indexA (k := .i64) (p := ad8) (n := arcs.length) (c := c) (i := rdI xs k) (by kernel_rfl) (by kernel_rfl) Try.underlying22 (by kernel_rfl) (by omega) (by omega)) ?_
        refine ql (.pointer (some (ad8.add ((rdI xs k).toNat * 2)))) (by kernel_rfl) (by kernel_rfl) ?_
        refine ql (.int .i64 ((gx arcs (rdI xs k)).1)) (by kernel_rfl) (R_load (p := ad8.add ((rdI xs k).toNat * 2)) (by kernel_rfl) (by kernel_rfl) (by kernel_rfl) (HS.old0 (Rd.elem0 (f := arcC) (fun _ => rfl) hr (gx_eq (by omega) (by omega)) rfl))) ?_
        refine ql (.int .i64 u) (by kernel_rfl) (by kernel_rfl) ?_
        by_cases hc9 : ((gx arcs (rdI xs k)).1) = u
        · skip
          refine ql (.bool false) (by kernel_rfl) (R_beq (b := ((gx arcs (rdI xs k)).1 != u)) (by kernel_rfl) (bne_f (hc9))) ?_
          refine ql (.bool false) (by kernel_rfl) (by kernel_rfl) ?_
          refine wpList_nil ?_
          refine x_then ?_
          refine wp_cond_false (by kernel_rfl) ?_
          refine wp_skip ?_
          refine x_then ?_
          refine wp_region_lit ?_
          refine ql (.slice (some ad8) arcs.length c) (by kernel_rfl) (by kernel_rfl) ?_
          refine ql (.slice (some ad5) xs.length cl) (by kernel_rfl) (by kernel_rfl) ?_
          refine ql (.int .i64 k) (by kernel_rfl) (by kernel_rfl) ?_
          refine ql (.pointer (some (ad5.add k.toNat))) (by kernel_rfl) (R_indexA1 (k := .i64) (p := ad5) (n := xs.length) (c := cl) (i := k) (by kernel_rfl) (by kernel_rfl) Try.underlying28 (by kernel_rfl) (by omega) (by omega)) ?_
          refine ql (.int .i64 (rdI xs k)) (by kernel_rfl) (R_load (p := ad5.add k.toNat) (by kernel_rfl) (by kernel_rfl) (by kernel_rfl) (HS.old0 (hrl.at_ (ci_rd (i := k) (by omega) (by omega))))) ?_
          refine ql (.pointer (some (ad8.add ((rdI xs k).toNat * 2)))) (by kernel_rfl) (R_indexA (k := .i64) (p := ad8) (n := arcs.length) (c := c) (i := rdI xs k) (by kernel_rfl) (by kernel_rfl) Try.underlying22 (by kernel_rfl) (by omega) (by omega)) ?_
          refine ql (.pointer (some ((ad8.add ((rdI xs k).toNat * 2)).add 1))) (by kernel_rfl) (by kernel_rfl) ?_
          refine ql (.int .i64 ((gx arcs (rdI xs k)).2)) (by kernel_rfl) (R_load (p := (ad8.add ((rdI xs k).toNat * 2)).add 1) (by kernel_rfl) (by kernel_rfl) (by kernel_rfl) (HS.old0 (Rd.elem1 (k := 1) (f := arcC) (fun _ => rfl) hr (gx_eq (by omega) (by omega)) rfl))) ?_
          refine ql (.int .i64 ((gx arcs (rdI xs k)).2)) (by kernel_rfl) (by kernel_rfl) ?_
          refine wpList_nil ?_
          refine x_inb ?_
          refine x_then ?_
          refine wp_region_lit ?_
          refine ql (.int .i64 k) (by kernel_rfl) (by kernel_rfl) ?_
          refine ql (.int .i64 (k + 1)) (by kernel_rfl) (R_int (by kernel_rfl) (w64 (by omega))) ?_
          refine ql (.int .i64 (k + 1)) (by kernel_rfl) (by kernel_rfl) ?_
          refine wpList_nil ?_
          have hst := wk_step (arcs := arcs) (xs := xs) (v := u) k0 (by omega) ⟨by omega, by omega, by omega⟩
          refine x_then ?_
          exact ⟨xs.length - (k + 1).toNat, by omega, (fun k_ : Nat => List.getD ((.int .i64 (N : Int)) :: (.slice (some ad8) arcs.length c) :: (.int .i64 ((gx arcs (rdI xs k)).2)) :: (.slice (some ad5) xs.length cl) :: undef :: undef :: undef :: undef :: ((J1 8)) :: ((J1 9)) :: (.int .i64 (k + 1)) :: (.int .i64 v) :: (.bool false) :: (.bool false) :: (.int .i64 v) :: (.int .i64 (N : Int)) :: (.bool false) :: (.bool false) :: (.int .i64 k) :: (.slice (some ad5) xs.length cl) :: (.int .i64 (xs.length : Int)) :: (.bool true) :: (.int .i64 k) :: (.int .i64 (k + 1)) :: (.slice (some ad5) xs.length cl) :: (.int .i64 k) :: (.pointer (some (ad5.add k.toNat))) :: (.int .i64 (rdI xs k)) :: (.bool false) :: (.bool false) :: (.slice (some ad5) xs.length cl) :: (.int .i64 k) :: (.pointer (some (ad5.add k.toNat))) :: (.int .i64 (rdI xs k)) :: (.slice (some ad8) arcs.length c) :: (.int .i64 (arcs.length : Int)) :: (.bool false) :: (.bool false) :: (.bool false) :: (.slice (some ad8) arcs.length c) :: (.slice (some ad5) xs.length cl) :: (.int .i64 k) :: (.pointer (some (ad5.add k.toNat))) :: (.int .i64 (rdI xs k)) :: (.pointer (some (ad8.add ((rdI xs k).toNat * 2)))) :: (.pointer (some (ad8.add ((rdI xs k).toNat * 2)))) :: (.int .i64 ((gx arcs (rdI xs k)).1)) :: (.int .i64 u) :: (.bool false) :: (.bool false) :: (.slice (some ad8) arcs.length c) :: (.slice (some ad5) xs.length cl) :: (.int .i64 k) :: (.pointer (some (ad5.add k.toNat))) :: (.int .i64 (rdI xs k)) :: (.pointer (some (ad8.add ((rdI xs k).toNat * 2)))) :: (.pointer (some ((ad8.add ((rdI xs k).toNat * 2)).add 1))) :: (.int .i64 ((gx arcs (rdI xs k)).2)) :: undef :: []) k_ undef), k + 1, (gx arcs (rdI xs k)).2, congrArg Fr (by kernel_rfl), rfl, by omega, by omega, hW.trans hst, HS⟩
        · skip
          refine ql (.bool true) (by kernel_rfl) (R_beq (b := ((gx arcs (rdI xs k)).1 != u)) (by kernel_rfl) (bne_t (hc9))) ?_
          refine ql (.bool true) (by kernel_rfl) (by kernel_rfl) ?_
          refine wpList_nil ?_
          refine x_then ?_
          refine wp_cond_true (by kernel_rfl) ?_
          refine wp_seq ?_
          refine wp_region_lit ?_
          refine ql (.int .i64 0) (by kernel_rfl) (by kernel_rfl) ?_
          refine ql (.bool false) (by kernel_rfl) (by kernel_rfl) ?_
          refine wpList_nil ?_
          refine x_then ?_
          refine wp_ret ?_
          refine x_thenR ?_
          refine x_inbR ?_
          refine x_thenR ?_
          refine x_thenR ?_
          refine x_inbR ?_
          refine x_thenR ?_
          refine ret_ (.tuple #[.int .i64 0, .bool false]) (by kernel_rfl) ?_
          have hq := wk_none (arcs := arcs) (v := u) (xs := xs) (k := k) k0 (by omega) (by rintro ⟨x1, x2, x3⟩; omega)
          exact ⟨by unfold wkN; rw [if_pos hv, hW, hq]; rfl, HS⟩
  · skip
    refine ql (.bool false) (by kernel_rfl) (R_nbool (p := k < (xs.length : Int)) (by kernel_rfl) (hc4)) ?_
    refine wpList_nil ?_
    refine x_then ?_
    refine wp_cond_false (by kernel_rfl) ?_
    refine wp_exit ?_
    refine x_thenE ?_
    refine x_thenE ?_
    refine x_hit ?_
    refine x_then ?_
    refine wp_seq ?_
    refine wp_region_lit ?_
    refine ql (.int .i64 u) (by kernel_rfl) (by kernel_rfl) ?_
    refine ql (.int .i64 u) (by kernel_rfl) (by kernel_rfl) ?_
    refine ql (.bool true) (by kernel_rfl) (by kernel_rfl) ?_
    refine wpList_nil ?_
    refine x_then ?_
    refine wp_ret ?_
    refine ret_ (.tuple #[.int .i64 u, .bool true]) (by kernel_rfl) ?_
    have hq := wk_end (arcs := arcs) (v := u) (xs := xs) (k := k) (by omega)
    exact ⟨by unfold wkN; rw [if_pos hv, hW, hq]; rfl, HS⟩

set_option maxRecDepth 100000 in
set_option maxHeartbeats 1000000 in
theorem rwalk_no (N : Nat) (A : Option Addr) (c : Nat) (arcs : List (Int × Int)) (W : World) (hr : Rd W A (cf arcC arcs)) (hl : arcs.length ≤ 1048576) (hF : Fine N arcs) (L : Option Addr) (cl : Nat) (xs : List Int) (v : Int) (hrl : Rd W L (ci .i64 xs)) (hxl : xs.length ≤ 1099511627776) (hv : ¬ (0 ≤ v ∧ v < N)) : Calls Try.prog 48 #[.int .i64 (N : Int), .slice A arcs.length c, .int .i64 v, .slice L xs.length cl] W fun e W' => e = .returned (tup (wkN N arcs v xs)) ∧ St W (owns []) W' [] := by
  have HS : St W (owns []) W [] := St.start W _
  refine calls_enter ((.int .i64 (N : Int)) :: (.slice A arcs.length c) :: (.int .i64 v) :: (.slice L xs.length cl) :: undef :: undef :: undef :: undef :: undef :: undef :: undef :: undef :: undef :: undef :: undef :: undef :: undef :: undef :: undef :: undef :: undef :: undef :: undef :: undef :: undef :: undef :: undef :: undef :: undef :: undef :: undef :: undef :: undef :: undef :: undef :: undef :: undef :: undef :: undef :: undef :: undef :: undef :: undef :: undef :: undef :: undef :: undef :: undef :: undef :: undef :: undef :: undef :: undef :: undef :: undef :: undef :: undef :: undef :: undef :: []) Try.func48 rfl (by kernel_rfl) ?_
  refine wp_seq ?_
  refine wp_region_lit ?_
  refine ql (.int .i64 0) (by kernel_rfl) (by kernel_rfl) ?_
  refine ql (.bool false) (by kernel_rfl) (by kernel_rfl) ?_
  refine wpList_nil ?_
  refine x_then ?_
  refine wp_seq ?_
  refine wp_seq ?_
  refine wp_region_lit ?_
  refine ql (.int .i64 v) (by kernel_rfl) (by kernel_rfl) ?_
  by_cases hc1 : v < (0 : Int)
  · skip
    refine ql (.bool true) (by kernel_rfl) (R_bool (p := v < (0 : Int)) (by kernel_rfl) (hc1)) ?_
    refine ql (.bool true) (by kernel_rfl) (by kernel_rfl) ?_
    refine qln (by kernel_rfl) ?_
    refine qln (by kernel_rfl) ?_
    refine qln (by kernel_rfl) ?_
    refine ql (.bool true) (by kernel_rfl) (by kernel_rfl) ?_
    refine wpList_nil ?_
    refine x_then ?_
    refine wp_cond_true (by kernel_rfl) ?_
    refine wp_seq ?_
    refine wp_region_lit ?_
    refine ql (.int .i64 0) (by kernel_rfl) (by kernel_rfl) ?_
    refine ql (.bool false) (by kernel_rfl) (by kernel_rfl) ?_
    refine wpList_nil ?_
    refine x_then ?_
    refine wp_ret ?_
    refine x_thenR ?_
    refine ret_ (.tuple #[.int .i64 0, .bool false]) (by kernel_rfl) ?_
    exact ⟨by unfold wkN; rw [if_neg hv]; rfl, HS⟩
  · skip
    refine ql (.bool false) (by kernel_rfl) (R_nbool (p := v < (0 : Int)) (by kernel_rfl) (hc1)) ?_
    refine ql (.bool false) (by kernel_rfl) (by kernel_rfl) ?_
    refine ql (.int .i64 v) (by kernel_rfl) (by kernel_rfl) ?_
    refine ql (.int .i64 (N : Int)) (by kernel_rfl) (by kernel_rfl) ?_
    refine ql (.bool true) (by kernel_rfl) (R_bool (p := v ≥ (N : Int)) (by kernel_rfl) (by omega)) ?_
    refine ql (.bool true) (by kernel_rfl) (by kernel_rfl) ?_
    refine wpList_nil ?_
    refine x_then ?_
    refine wp_cond_true (by kernel_rfl) ?_
    refine wp_seq ?_
    refine wp_region_lit ?_
    refine ql (.int .i64 0) (by kernel_rfl) (by kernel_rfl) ?_
    refine ql (.bool false) (by kernel_rfl) (by kernel_rfl) ?_
    refine wpList_nil ?_
    refine x_then ?_
    refine wp_ret ?_
    refine x_thenR ?_
    refine ret_ (.tuple #[.int .i64 0, .bool false]) (by kernel_rfl) ?_
    exact ⟨by unfold wkN; rw [if_neg hv]; rfl, HS⟩


set_option maxRecDepth 100000 in
set_option maxHeartbeats 1000000 in
theorem short_yes (g N : Nat) (arcs : List (Int × Int)) (v t0 : Int) (ds bs : List Int) (W : World) (hG : GAt W g N arcs) (hN : N ≤ 1048576) (hm : arcs.length ≤ 67108864) (hD0 : DS N arcs v ds) (hK0 : BK N arcs ds bs) (ht : 0 ≤ t0 ∧ t0 < N ∧ 0 ≤ rdI ds t0) : Calls Try.prog 41 #[.pointer (some ⟨g, 0, none⟩), .int .i64 v, .int .i64 t0, .pointer none] W fun e W' => ∃ A' c', e = .returned (.tuple #[.slice A' (rl arcs bs (rdI ds t0).toNat t0).reverse.length c', .bool true]) ∧ St W (owns []) W' [row A' (rl arcs bs (rdI ds t0).toNat t0).reverse.length c' (ci .i64 (rl arcs bs (rdI ds t0).toNat t0).reverse) 3 1] := by
  have HS : St W (owns []) W [] := St.start W _
  have hF := hG.fine
  refine calls_enter [.pointer (some ⟨g, 0, none⟩), .int .i64 v, .int .i64 t0, .pointer none, undef, undef, undef, undef, undef, undef, undef, undef, undef, undef, undef, undef, undef, undef, undef, undef, undef, undef, undef, undef, undef, undef, undef, undef, undef, undef, undef, undef, undef, undef, undef, undef, undef, undef, undef, undef, undef, undef, undef, undef, undef, undef] Try.func41 rfl (by kernel_rfl) ?_
  refine wp_seq ?_
  refine wp_region_lit ?_
  refine ql (.slice none 0 0) (by kernel_rfl) (by kernel_rfl) ?_
  refine ql (.bool false) (by kernel_rfl) (by kernel_rfl) ?_
  refine wpList_nil ?_
  refine x_then ?_
  refine wp_seq ?_
  refine wp_region_lit ?_
  refine ql (.pointer (some ⟨g, 0, none⟩)) (by kernel_rfl) (by kernel_rfl) ?_
  refine ql (.int .i64 v) (by kernel_rfl) (by kernel_rfl) ?_
  refine ql (.pointer none) (by kernel_rfl) (by kernel_rfl) ?_
  refine qc (f := 30) (args := #[.pointer (some ⟨g, 0, none⟩), .int .i64 v, .pointer none]) (by kernel_rfl) (R_call #[.pointer (some ⟨g, 0, none⟩), .int .i64 v, .pointer none] Try.func30 (by kernel_rfl) (by kernel_rfl) (by kernel_rfl)) ?_
  refine (fromT g N arcs v _ (hG.below (HS.kept.below owns_nil)) hN hm).mono ?_
  rintro e W5 ⟨t1, ds3, bs4, rfl, H_, hTh2, hDh2, hKh2⟩
  refine ⟨_, rfl, ?_⟩
  replace HS : St W (owns []) W5 [] := HS.join (F := []) (G := []) H_
  clear H_
  have HB6 := HS
  replace hG := hG.below (HB6.kept.below owns_nil)
  clear HS
  have HS : St W5 (owns []) W5 [] := St.start _ _
  obtain rfl := ds_eq hF hDh2 hD0
  obtain rfl := bk_eq hDh2 hKh2 hK0
  refine ql (.pointer (some ⟨t1, 0, none⟩)) (by kernel_rfl) (by kernel_rfl) ?_
  refine wpList_nil ?_
  refine x_then ?_
  refine wp_seq ?_
  refine wp_seq ?_
  have hlv := lvl hDh2.ld hDh2.ze hDh2.pr hF ht.1 ht.2.1
  refine wp_region_lit ?_
  refine ql (.pointer (some ⟨t1, 0, none⟩)) (by kernel_rfl) (by kernel_rfl) ?_
  refine ql (.int .i64 t0) (by kernel_rfl) (by kernel_rfl) ?_
  refine qc (f := 31) (args := #[.pointer (some ⟨t1, 0, none⟩), .int .i64 t0]) (by kernel_rfl) (R_call #[.pointer (some ⟨t1, 0, none⟩), .int .i64 t0] Try.func31 (by kernel_rfl) (by kernel_rfl) (by kernel_rfl)) ?_
  refine (tdist_y t1 ds3 bs4 _ (hTh2.below (HS.kept.below owns_nil)) t0 (by omega) (by have h_ := hDh2.ld; omega)).mono ?_
  rintro e W7 ⟨rfl, H_⟩
  refine ⟨_, rfl, ?_⟩
  replace HS : St W5 (owns []) W7 [] := HS.join (F := []) (G := []) H_
  clear H_
  refine ql (.bool false) (by kernel_rfl) (R_nbool (p := (rdI ds3 t0) < (0 : Int)) (by kernel_rfl) (by omega)) ?_
  refine wpList_nil ?_
  refine x_then ?_
  refine wp_cond_false (by kernel_rfl) ?_
  refine wp_skip ?_
  refine x_then ?_
  refine wp_seq ?_
  refine wp_region_lit ?_
  refine ql (.slice none 0 0) (by kernel_rfl) (by kernel_rfl) ?_
  refine wpList_nil ?_
  refine x_then ?_
  refine wp_seq ?_
  refine wp_block ?_
  replace HS : St W5 (owns []) W7 [row none 0 0 (ci .i64 ([])) 3 1] := (HS.nilRow 3 1).cast_ (by kernel_rfl)
  refine wp_loop_ghost (fun kq a' w' => ∃ (J8 : Nat → Value) (Ao : Option Addr) (co : Nat) (os : List Int) (t : Int) , a' = Fr [.pointer (some ⟨g, 0, none⟩), .int .i64 v, .int .i64 t, .pointer none, undef, undef, undef, undef, .slice none 0 0, .bool false, .pointer (some ⟨t1, 0, none⟩), .slice Ao os.length co, (J8 12), (J8 13), (J8 14), .pointer (some ⟨g, 0, none⟩), .int .i64 v, .pointer none, .pointer (some ⟨t1, 0, none⟩), .pointer (some ⟨t1, 0, none⟩), .int .i64 t0, .int .i64 (rdI ds3 t0), .bool false, (J8 23), (J8 24), (J8 25), (J8 26), (J8 27), (J8 28), (J8 29), (J8 30), (J8 31), (J8 32), (J8 33), (J8 34), (J8 35), (J8 36), (J8 37), (J8 38), (J8 39), (J8 40), (J8 41), (J8 42), undef, undef, undef] ∧ kq = ((rdI ds3 t).toNat) ∧ (0 ≤ t) ∧ (t < N) ∧ (0 ≤ rdI ds3 t) ∧ (rl arcs bs4 (rdI ds3 t0).toNat t0 = os ++ rl arcs bs4 (rdI ds3 t).toNat t) ∧ ((os.length : Int) + rdI ds3 t = rdI ds3 t0) ∧ St W5 (owns []) w' [row Ao os.length co (ci .i64 os) 3 1]) ((rdI ds3 t0).toNat) ⟨(fun k_ : Nat => List.getD [.pointer (some ⟨g, 0, none⟩), .int .i64 v, .int .i64 t0, .pointer none, undef, undef, undef, undef, .slice none 0 0, .bool false, .pointer (some ⟨t1, 0, none⟩), .slice none 0 0, undef, undef, undef, .pointer (some ⟨g, 0, none⟩), .int .i64 v, .pointer none, .pointer (some ⟨t1, 0, none⟩), .pointer (some ⟨t1, 0, none⟩), .int .i64 t0, .int .i64 (rdI ds3 t0), .bool false, undef, undef, undef, undef, undef, undef, undef, undef, undef, undef, undef, undef, undef, undef, undef, undef, undef, undef, undef, undef, undef, undef, undef] k_ undef), none, 0, ([] : List Int), t0, congrArg Fr (by kernel_rfl), rfl, ht.1, ht.2.1, ht.2.2, by simp, by simp, HS⟩ ?_
  clear HS
  intro kq9 a' W10 hrel
  obtain ⟨J8, Ao, co, os, t, rfl, hk, tb0, tb1, hd0, hO, hol, HS⟩ := hrel
  refine wp_seq ?_
  refine wp_seq ?_
  refine wp_region_lit ?_
  refine ql (.int .i64 t) (by kernel_rfl) (by kernel_rfl) ?_
  refine ql (.int .i64 v) (by kernel_rfl) (by kernel_rfl) ?_
  by_cases hc11 : t = v
  · skip
    refine ql (.bool false) (by kernel_rfl) (R_beq (b := (t != v)) (by kernel_rfl) (bne_f (hc11))) ?_
    refine wpList_nil ?_
    refine x_then ?_
    refine wp_cond_false (by kernel_rfl) ?_
    refine wp_exit ?_
    refine x_thenE ?_
    refine x_thenE ?_
    refine x_hit ?_
    refine x_then ?_
    refine wp_seq ?_
    refine wp_region_lit ?_
    refine ql (.slice Ao os.length co) (by kernel_rfl) (by kernel_rfl) ?_
    refine qc (f := 57) (args := #[.slice Ao os.length co]) (by kernel_rfl) (R_call #[.slice Ao os.length co] Try.func57 (by kernel_rfl) (by kernel_rfl) (by kernel_rfl)) ?_
    have hz : rdI ds3 t = 0 := (hDh2.ze t tb0 tb1).2 (by omega)
    have hO2 : os = rl arcs bs4 (rdI ds3 t0).toNat t0 := by rw [hO, hz]; simp [rl_zero]
    refine (crev Ao os.length co os _ _ (St.focus (F := [row Ao os.length co (ci .i64 os) 3 1]) HS) rfl (by omega)).mono ?_
    rintro e W12 ⟨rfl, H_⟩
    refine ⟨_, rfl, ?_⟩
    replace HS : St W5 (owns []) W12 [row Ao os.length co (ci .i64 os.reverse) 3 1] := HS.join (F := [row Ao os.length co (ci .i64 os) 3 1]) (G := [row Ao os.length co (ci .i64 os.reverse) 3 1]) H_
    clear H_
    refine wpList_nil ?_
    refine x_then ?_
    refine wp_seq ?_
    refine wp_region_lit ?_
    refine ql (.slice Ao os.length co) (by kernel_rfl) (by kernel_rfl) ?_
    refine ql (.slice Ao os.length co) (by kernel_rfl) (by kernel_rfl) ?_
    refine ql (.bool true) (by kernel_rfl) (by kernel_rfl) ?_
    refine wpList_nil ?_
    refine x_then ?_
    refine wp_ret ?_
    refine ret_ (.tuple #[.slice Ao os.length co, .bool true]) (by kernel_rfl) ?_
    replace HS : St W (owns []) W12 [row Ao os.length co (ci .i64 os.reverse) 3 1] := HB6.join (F := []) (G := [row Ao os.length co (ci .i64 os.reverse) 3 1]) HS
    subst hO2
    rw [← List.length_reverse] at HS ⊢
    exact ⟨_, _, rfl, HS⟩
  · skip
    refine ql (.bool true) (by kernel_rfl) (R_beq (b := (t != v)) (by kernel_rfl) (bne_t (hc11))) ?_
    refine wpList_nil ?_
    refine x_then ?_
    refine wp_cond_true (by kernel_rfl) ?_
    refine wp_skip ?_
    refine x_then ?_
    refine wp_block ?_
    refine wp_seq ?_
    have hpos : 0 < rdI ds3 t := by have hz := hDh2.ze t tb0 tb1; by_cases h9 : rdI ds3 t = 0; exact absurd (hz.1 h9) hc11; omega
    obtain ⟨p1, p2, p3, p4⟩ := hKh2.bk t tb0 tb1 hpos
    have hfi := gx_fine hF p1 p2
    refine wp_region_lit ?_
    refine ql (.pointer none) (by kernel_rfl) (by kernel_rfl) ?_
    refine qc (f := 54) (args := #[.pointer none, .int .i64 6, .int .i64 1]) (by kernel_rfl) (R_call #[.pointer none, .int .i64 6, .int .i64 1] Try.func54 (by kernel_rfl) (by kernel_rfl) (by kernel_rfl)) ?_
    refine (cadd_nil 6 1 _).mono ?_
    rintro e W13 ⟨rfl, H_⟩
    refine ⟨_, rfl, ?_⟩
    replace HS : St W5 (owns []) W13 [row Ao os.length co (ci .i64 os) 3 1] := HS.join (F := []) (G := []) H_
    clear H_
    refine wpList_nil ?_
    refine x_then ?_
    refine wp_seq ?_
    refine wp_region_lit ?_
    refine ql (.pointer (some ⟨t1, 0, none⟩)) (by kernel_rfl) (by kernel_rfl) ?_
    refine ql (.int .i64 t) (by kernel_rfl) (by kernel_rfl) ?_
    refine qc (f := 34) (args := #[.pointer (some ⟨t1, 0, none⟩), .int .i64 t]) (by kernel_rfl) (R_call #[.pointer (some ⟨t1, 0, none⟩), .int .i64 t] Try.func34 (by kernel_rfl) (by kernel_rfl) (by kernel_rfl)) ?_
    refine (tback_y t1 ds3 bs4 _ (hTh2.below (HS.kept.below owns_nil)) t (by omega) (by have h_ := hDh2.ld; omega)).mono ?_
    rintro e W14 ⟨rfl, H_⟩
    refine ⟨_, rfl, ?_⟩
    replace HS : St W5 (owns []) W14 [row Ao os.length co (ci .i64 os) 3 1] := HS.join (F := []) (G := []) H_
    clear H_
    refine ql (.int .i64 (rdI bs4 t)) (by kernel_rfl) (by kernel_rfl) ?_
    refine wpList_nil ?_
    refine x_then ?_
    refine wp_seq ?_
    refine wp_region_lit ?_
    refine ql (.pointer (some ⟨g, 0, none⟩)) (by kernel_rfl) (by kernel_rfl) ?_
    refine ql (.int .i64 (rdI bs4 t)) (by kernel_rfl) (by kernel_rfl) ?_
    refine qc (f := 22) (args := #[.pointer (some ⟨g, 0, none⟩), .int .i64 (rdI bs4 t)]) (by kernel_rfl) (R_call #[.pointer (some ⟨g, 0, none⟩), .int .i64 (rdI bs4 t)] Try.func22 (by kernel_rfl) (by kernel_rfl) (by kernel_rfl)) ?_
    refine (arc_yes g N arcs _ (hG.below (HS.kept.below owns_nil)) (rdI bs4 t) p1 p2).mono ?_
    rintro e W15 ⟨rfl, H_⟩
    refine ⟨_, rfl, ?_⟩
    replace HS : St W5 (owns []) W15 [row Ao os.length co (ci .i64 os) 3 1] := HS.join (F := []) (G := []) H_
    clear H_
    refine ql (.tuple #[.agg #[.int .i64 ((gx arcs (rdI bs4 t)).1), .int .i64 ((gx arcs (rdI bs4 t)).2)], .bool true]) (by kernel_rfl) (by kernel_rfl) ?_
    refine ql (.agg #[.int .i64 ((gx arcs (rdI bs4 t)).1), .int .i64 ((gx arcs (rdI bs4 t)).2)]) (by kernel_rfl) (by kernel_rfl) ?_
    refine ql (.bool true) (by kernel_rfl) (by kernel_rfl) ?_
    refine kb HS [.int .i64 0, .int .i64 0] 35 (fun g => .pointer (some ⟨g, 0, none⟩)) (by kernel_rfl) (by kernel_rfl) ?_
    intro g16 W17 H_
    replace HS : St W5 (owns []) W17 [blk g16 [.int .i64 0, .int .i64 0] 35, row Ao os.length co (ci .i64 os) 3 1] := H_
    clear H_
    refine ks (v := .agg #[.int .i64 ((gx arcs (rdI bs4 t)).1), .int .i64 ((gx arcs (rdI bs4 t)).2)]) HS 0 rfl (0) [.int .i64 ((gx arcs (rdI bs4 t)).1), .int .i64 ((gx arcs (rdI bs4 t)).2)] (by kernel_rfl) (by kernel_rfl) (by kernel_rfl) (by kernel_rfl) (by kernel_rfl) (one_ (by kernel_rfl)) (Nat.le_of_ble_eq_true rfl) rfl ?_
    intro W18 H_
    replace HS : St W5 (owns []) W18 [blk g16 [.int .i64 ((gx arcs (rdI bs4 t)).1), .int .i64 ((gx arcs (rdI bs4 t)).2)] 35, row Ao os.length co (ci .i64 os) 3 1] := H_
    clear H_
    refine ql (.bool true) (by kernel_rfl) (by kernel_rfl) ?_
    refine wpList_nil ?_
    refine x_then ?_
    refine wp_seq ?_
    refine wp_region_lit ?_
    refine ql (.slice Ao os.length co) (by kernel_rfl) (by kernel_rfl) ?_
    refine ql (.int .i64 (rdI bs4 t)) (by kernel_rfl) (by kernel_rfl) ?_
    refine kl HS 1 [.int .i64 (rdI bs4 t)] 3 1 (by kernel_rfl) (by kernel_rfl) rfl (by decide) ?_
    intro g19 W20 H_
    replace HS : St W5 (owns []) W20 [row (some ⟨g19, 0, none⟩) 1 1 (ci .i64 ([rdI bs4 t])) 3 1, blk g16 [.int .i64 ((gx arcs (rdI bs4 t)).1), .int .i64 ((gx arcs (rdI bs4 t)).2)] 35, row Ao os.length co (ci .i64 os) 3 1] := H_.cast_ (by kernel_rfl)
    clear H_
    obtain ⟨xs24, xs24_⟩ : ∃ z_ : List Int, z_ = os ++ ([rdI bs4 t]) := ⟨_, rfl⟩
    have xs24l : xs24.length = os.length + 1 := by rw [xs24_, List.length_append] <;> (try simp only [List.length_cons, List.length_nil]) <;> omega
    refine ka1 HS 2 rfl (Src.of_row HS (i := 0) rfl ci_one) [.int .i64 0] 8 xs24.length (ci .i64 xs24) (by omega) (by rw [xs24_, ci_app]) (by kernel_rfl) (by kernel_rfl) (by kernel_rfl) Try.underlying28 (by kernel_rfl) (by kernel_rfl) (by kernel_rfl) (by kernel_rfl) (by decide) (by omega) (by omega) ?_
    intro A21 c22 W23 H_
    replace HS : St W5 (owns []) W23 [row (some ⟨g19, 0, none⟩) 1 1 (ci .i64 ([rdI bs4 t])) 3 1, blk g16 [.int .i64 ((gx arcs (rdI bs4 t)).1), .int .i64 ((gx arcs (rdI bs4 t)).2)] 35, row A21 xs24.length c22 (ci .i64 xs24) 3 1] := H_
    clear H_
    refine ql (.slice A21 xs24.length c22) (by kernel_rfl) (by kernel_rfl) ?_
    refine wpList_nil ?_
    refine x_then ?_
    refine wp_region_lit ?_
    refine ql (.pointer (some ⟨g16, 0, none⟩)) (by kernel_rfl) (by kernel_rfl) ?_
    refine ql (.int .i64 ((gx arcs (rdI bs4 t)).1)) (by kernel_rfl) (R_load (p := ⟨g16, 0, none⟩) (by kernel_rfl) (by kernel_rfl) (by kernel_rfl) (HS.cell (i := 1) (j := 0) rfl rfl)) ?_
    refine ql (.int .i64 ((gx arcs (rdI bs4 t)).1)) (by kernel_rfl) (by kernel_rfl) ?_
    refine wpList_nil ?_
    refine x_inb ?_
    replace HS := HS.drop1
    replace HS := HS.drop1
    have hst := rl_step (os := os) hpos p4
    refine x_then ?_
    exact ⟨(rdI ds3 ((gx arcs (rdI bs4 t)).1)).toNat, by omega, (fun k_ : Nat => List.getD [.pointer (some ⟨g, 0, none⟩), .int .i64 v, .int .i64 ((gx arcs (rdI bs4 t)).1), .pointer none, undef, undef, undef, undef, .slice none 0 0, .bool false, .pointer (some ⟨t1, 0, none⟩), .slice A21 xs24.length c22, .int .i64 (rdI bs4 t), .pointer (some ⟨g16, 0, none⟩), .bool true, .pointer (some ⟨g, 0, none⟩), .int .i64 v, .pointer none, .pointer (some ⟨t1, 0, none⟩), .pointer (some ⟨t1, 0, none⟩), .int .i64 t0, .int .i64 (rdI ds3 t0), .bool false, .int .i64 t, .int .i64 v, .bool true, .pointer none, .tuple #[], .pointer (some ⟨t1, 0, none⟩), .int .i64 t, .int .i64 (rdI bs4 t), .tuple #[.agg #[.int .i64 ((gx arcs (rdI bs4 t)).1), .int .i64 ((gx arcs (rdI bs4 t)).2)], .bool true], .pointer (some ⟨g, 0, none⟩), .int .i64 (rdI bs4 t), .tuple #[.agg #[.int .i64 ((gx arcs (rdI bs4 t)).1), .int .i64 ((gx arcs (rdI bs4 t)).2)], .bool true], .agg #[.int .i64 ((gx arcs (rdI bs4 t)).1), .int .i64 ((gx arcs (rdI bs4 t)).2)], .bool true, .slice Ao os.length co, .int .i64 (rdI bs4 t), .slice (some ⟨g19, 0, none⟩) 1 1, .slice A21 xs24.length c22, .pointer (some ⟨g16, 0, none⟩), .int .i64 ((gx arcs (rdI bs4 t)).1), undef, undef, undef] k_ undef), A21, c22, xs24, (gx arcs (rdI bs4 t)).1, congrArg Fr (by kernel_rfl), rfl, hfi.1, hfi.2.1, by omega, by rw [hO, hst, xs24_], by omega, HS⟩

set_option maxRecDepth 100000 in
set_option maxHeartbeats 1000000 in
theorem short_nil (v t0 : Int) (W : World) : Calls Try.prog 41 #[.pointer none, .int .i64 v, .int .i64 t0, .pointer none] W fun e W' => e = .returned (.tuple #[.slice none 0 0, .bool false]) ∧ St W (owns []) W' [] := by
  have HS : St W (owns []) W [] := St.start W _
  refine calls_enter [.pointer none, .int .i64 v, .int .i64 t0, .pointer none, undef, undef, undef, undef, undef, undef, undef, undef, undef, undef, undef, undef, undef, undef, undef, undef, undef, undef, undef, undef, undef, undef, undef, undef, undef, undef, undef, undef, undef, undef, undef, undef, undef, undef, undef, undef, undef, undef, undef, undef, undef, undef] Try.func41 rfl (by kernel_rfl) ?_
  refine wp_seq ?_
  refine wp_region_lit ?_
  refine ql (.slice none 0 0) (by kernel_rfl) (by kernel_rfl) ?_
  refine ql (.bool false) (by kernel_rfl) (by kernel_rfl) ?_
  refine wpList_nil ?_
  refine x_then ?_
  refine wp_seq ?_
  refine wp_region_lit ?_
  refine ql (.pointer none) (by kernel_rfl) (by kernel_rfl) ?_
  refine ql (.int .i64 v) (by kernel_rfl) (by kernel_rfl) ?_
  refine ql (.pointer none) (by kernel_rfl) (by kernel_rfl) ?_
  refine qc (f := 30) (args := #[.pointer none, .int .i64 v, .pointer none]) (by kernel_rfl) (R_call #[.pointer none, .int .i64 v, .pointer none] Try.func30 (by kernel_rfl) (by kernel_rfl) (by kernel_rfl)) ?_
  refine (fromN v _).mono ?_
  rintro e W3 ⟨t1, rfl, H_, hTh2⟩
  refine ⟨_, rfl, ?_⟩
  replace HS : St W (owns []) W3 [] := HS.join (F := []) (G := []) H_
  clear H_
  have HB4 := HS
  clear HS
  have HS : St W3 (owns []) W3 [] := St.start _ _
  refine ql (.pointer (some ⟨t1, 0, none⟩)) (by kernel_rfl) (by kernel_rfl) ?_
  refine wpList_nil ?_
  refine x_then ?_
  refine wp_seq ?_
  refine wp_seq ?_
  refine wp_region_lit ?_
  refine ql (.pointer (some ⟨t1, 0, none⟩)) (by kernel_rfl) (by kernel_rfl) ?_
  refine ql (.int .i64 t0) (by kernel_rfl) (by kernel_rfl) ?_
  refine qc (f := 31) (args := #[.pointer (some ⟨t1, 0, none⟩), .int .i64 t0]) (by kernel_rfl) (R_call #[.pointer (some ⟨t1, 0, none⟩), .int .i64 t0] Try.func31 (by kernel_rfl) (by kernel_rfl) (by kernel_rfl)) ?_
  refine (tdist_n t1 ([]) ([]) _ (hTh2.below (HS.kept.below owns_nil)) t0 (by simp only [List.length_nil]; omega)).mono ?_
  rintro e W5 ⟨rfl, H_⟩
  refine ⟨_, rfl, ?_⟩
  replace HS : St W3 (owns []) W5 [] := HS.join (F := []) (G := []) H_
  clear H_
  refine ql (.bool true) (by kernel_rfl) (R_beq (b := decide ((-1 : Int) < 0)) (by kernel_rfl) (by decide)) ?_
  refine wpList_nil ?_
  refine x_then ?_
  refine wp_cond_true (by kernel_rfl) ?_
  refine wp_seq ?_
  refine wp_region_lit ?_
  refine ql (.slice none 0 0) (by kernel_rfl) (by kernel_rfl) ?_
  refine ql (.bool false) (by kernel_rfl) (by kernel_rfl) ?_
  refine wpList_nil ?_
  refine x_then ?_
  refine wp_ret ?_
  refine x_thenR ?_
  refine ret_ (.tuple #[.slice none 0 0, .bool false]) (by kernel_rfl) ?_
  replace HS : St W (owns []) W5 [] := HB4.join (F := []) (G := []) HS
  exact ⟨rfl, HS⟩

set_option maxRecDepth 100000 in
set_option maxHeartbeats 1000000 in
theorem count_nil (v t0 : Int) (W : World) : Calls Try.prog 42 #[.pointer none, .int .i64 v, .int .i64 t0] W fun e W' => e = .returned (.int .i64 0) ∧ St W (owns []) W' [] := by
  have HS : St W (owns []) W [] := St.start W _
  refine calls_enter ((.pointer none) :: (.int .i64 v) :: (.int .i64 t0) :: undef :: undef :: undef :: undef :: undef :: undef :: undef :: undef :: undef :: undef :: undef :: undef :: undef :: undef :: undef :: undef :: undef :: undef :: undef :: undef :: undef :: undef :: undef :: undef :: undef :: undef :: undef :: undef :: undef :: undef :: undef :: undef :: undef :: undef :: undef :: undef :: undef :: undef :: undef :: undef :: undef :: undef :: undef :: undef :: undef :: undef :: undef :: undef :: undef :: undef :: undef :: undef :: undef :: undef :: undef :: undef :: undef :: undef :: undef :: undef :: undef :: undef :: undef :: undef :: undef :: undef :: undef :: undef :: undef :: undef :: undef :: undef :: undef :: undef :: undef :: undef :: undef :: undef :: undef :: undef :: undef :: undef :: []) Try.func42 rfl (by kernel_rfl) ?_
  refine wp_seq ?_
  refine wp_region_lit ?_
  refine ql (.int .i64 0) (by kernel_rfl) (by kernel_rfl) ?_
  refine wpList_nil ?_
  refine x_then ?_
  refine wp_seq ?_
  refine wp_region_lit ?_
  refine ql (.pointer none) (by kernel_rfl) (by kernel_rfl) ?_
  refine ql (.int .i64 v) (by kernel_rfl) (by kernel_rfl) ?_
  refine qc (f := 30) (args := #[.pointer none, .int .i64 v, .pointer none]) (by kernel_rfl) (R_call #[.pointer none, .int .i64 v, .pointer none] Try.func30 (by kernel_rfl) (by kernel_rfl) (by kernel_rfl)) ?_
  refine (fromN v _).mono ?_
  rintro e W3 ⟨t1, rfl, H_, hTh2⟩
  refine ⟨_, rfl, ?_⟩
  replace HS : St W (owns []) W3 [] := HS.join (F := []) (G := []) H_
  clear H_
  have HB4 := HS
  clear HS
  have HS : St W3 (owns []) W3 [] := St.start _ _
  refine ql (.pointer (some ⟨t1, 0, none⟩)) (by kernel_rfl) (by kernel_rfl) ?_
  refine wpList_nil ?_
  refine x_then ?_
  refine wp_seq ?_
  refine wp_seq ?_
  refine wp_region_lit ?_
  refine ql (.pointer (some ⟨t1, 0, none⟩)) (by kernel_rfl) (by kernel_rfl) ?_
  refine ql (.int .i64 t0) (by kernel_rfl) (by kernel_rfl) ?_
  refine qc (f := 31) (args := #[.pointer (some ⟨t1, 0, none⟩), .int .i64 t0]) (by kernel_rfl) (R_call #[.pointer (some ⟨t1, 0, none⟩), .int .i64 t0] Try.func31 (by kernel_rfl) (by kernel_rfl) (by kernel_rfl)) ?_
  refine (tdist_n t1 ([]) ([]) _ (hTh2.below (HS.kept.below owns_nil)) t0 (by simp only [List.length_nil]; omega)).mono ?_
  rintro e W5 ⟨rfl, H_⟩
  refine ⟨_, rfl, ?_⟩
  replace HS : St W3 (owns []) W5 [] := HS.join (F := []) (G := []) H_
  clear H_
  refine ql (.bool true) (by kernel_rfl) (R_beq (b := decide ((-1 : Int) < 0)) (by kernel_rfl) (by decide)) ?_
  refine wpList_nil ?_
  refine x_then ?_
  refine wp_cond_true (by kernel_rfl) ?_
  refine wp_seq ?_
  refine wp_region_lit ?_
  refine ql (.int .i64 0) (by kernel_rfl) (by kernel_rfl) ?_
  refine wpList_nil ?_
  refine x_then ?_
  refine wp_ret ?_
  refine x_thenR ?_
  refine ret_ (.int .i64 0) (by kernel_rfl) ?_
  replace HS : St W (owns []) W5 [] := HB4.join (F := []) (G := []) HS
  exact ⟨rfl, HS⟩

theorem lay_p {N : Nat} {ds : List Int} {d : Int} (hl : ds.length = N) : LayP N ds (layr ds d ds.length) d := by
  refine ⟨fun x hx => ?_, ?_, fun w a b e => ?_⟩
  · unfold layr at hx
    simp only [List.mem_map, List.mem_filter, List.mem_range, decide_eq_true_eq] at hx
    obtain ⟨w, ⟨h1, h2⟩, rfl⟩ := hx
    exact ⟨by omega, by omega, h2⟩
  · unfold layr
    exact List.Pairwise.map _ (fun a b h e => h (by omega)) ((List.nodup_range).filter _)
  · unfold layr
    simp only [List.mem_map, List.mem_filter, List.mem_range, decide_eq_true_eq]
    exact ⟨w.toNat, ⟨by omega, by rw [show ((w.toNat : Nat) : Int) = w by omega]; exact e⟩, by omega⟩
theorem layr_leN {N : Nat} {ds : List Int} (hl : ds.length = N) (d : Int) : (layr ds d ds.length).length ≤ N := by rw [← hl]; exact layr_le ds d ds.length

set_option maxRecDepth 100000 in
set_option maxHeartbeats 1000000 in
theorem count_yes (g N : Nat) (arcs : List (Int × Int)) (v t0 : Int) (ds : List Int) (W : World) (hG : GAt W g N arcs) (hN : N ≤ 1048576) (hm : arcs.length ≤ 67108864) (hD0 : DS N arcs v ds) (hv0 : 0 ≤ v) (hv1 : v < N) (ht : 0 ≤ t0 ∧ t0 < N ∧ 0 ≤ rdI ds t0) : Calls Try.prog 42 #[.pointer (some ⟨g, 0, none⟩), .int .i64 v, .int .i64 t0] W fun e W' => e = .returned (.int .i64 (nwc arcs ds (rdI ds t0).toNat t0)) ∧ St W (owns []) W' [] := by
  have HS : St W (owns []) W [] := St.start W _
  have hF := hG.fine
  refine calls_enter ((.pointer (some ⟨g, 0, none⟩)) :: (.int .i64 v) :: (.int .i64 t0) :: undef :: undef :: undef :: undef :: undef :: undef :: undef :: undef :: undef :: undef :: undef :: undef :: undef :: undef :: undef :: undef :: undef :: undef :: undef :: undef :: undef :: undef :: undef :: undef :: undef :: undef :: undef :: undef :: undef :: undef :: undef :: undef :: undef :: undef :: undef :: undef :: undef :: undef :: undef :: undef :: undef :: undef :: undef :: undef :: undef :: undef :: undef :: undef :: undef :: undef :: undef :: undef :: undef :: undef :: undef :: undef :: undef :: undef :: undef :: undef :: undef :: undef :: undef :: undef :: undef :: undef :: undef :: undef :: undef :: undef :: undef :: undef :: undef :: undef :: undef :: undef :: undef :: undef :: undef :: undef :: undef :: undef :: []) Try.func42 rfl (by kernel_rfl) ?_
  refine wp_seq ?_
  refine wp_region_lit ?_
  refine ql (.int .i64 0) (by kernel_rfl) (by kernel_rfl) ?_
  refine wpList_nil ?_
  refine x_then ?_
  refine wp_seq ?_
  refine wp_region_lit ?_
  refine ql (.pointer (some ⟨g, 0, none⟩)) (by kernel_rfl) (by kernel_rfl) ?_
  refine ql (.int .i64 v) (by kernel_rfl) (by kernel_rfl) ?_
  refine qc (f := 30) (args := #[.pointer (some ⟨g, 0, none⟩), .int .i64 v, .pointer none]) (by kernel_rfl) (R_call #[.pointer (some ⟨g, 0, none⟩), .int .i64 v, .pointer none] Try.func30 (by kernel_rfl) (by kernel_rfl) (by kernel_rfl)) ?_
  refine (fromT g N arcs v _ (hG.below (HS.kept.below owns_nil)) hN hm).mono ?_
  rintro e W5 ⟨t1, ds3, bs4, rfl, H_, hTh2, hDh2, hKh2⟩
  refine ⟨_, rfl, ?_⟩
  replace HS : St W (owns []) W5 [] := HS.join (F := []) (G := []) H_
  clear H_
  have HB6 := HS
  replace hG := hG.below (HB6.kept.below owns_nil)
  clear HS
  have HS : St W5 (owns []) W5 [] := St.start _ _
  obtain rfl := ds_eq hF hDh2 hD0
  have hdl := hDh2.ld
  refine ql (.pointer (some ⟨t1, 0, none⟩)) (by kernel_rfl) (by kernel_rfl) ?_
  refine wpList_nil ?_
  refine x_then ?_
  refine wp_seq ?_
  refine wp_seq ?_
  have hlv := lvl hDh2.ld hDh2.ze hDh2.pr hF ht.1 ht.2.1
  refine wp_region_lit ?_
  refine ql (.pointer (some ⟨t1, 0, none⟩)) (by kernel_rfl) (by kernel_rfl) ?_
  refine ql (.int .i64 t0) (by kernel_rfl) (by kernel_rfl) ?_
  refine qc (f := 31) (args := #[.pointer (some ⟨t1, 0, none⟩), .int .i64 t0]) (by kernel_rfl) (R_call #[.pointer (some ⟨t1, 0, none⟩), .int .i64 t0] Try.func31 (by kernel_rfl) (by kernel_rfl) (by kernel_rfl)) ?_
  refine (tdist_y t1 ds3 bs4 _ (hTh2.below (HS.kept.below owns_nil)) t0 (by omega) (by have h_ := hDh2.ld; omega)).mono ?_
  rintro e W7 ⟨rfl, H_⟩
  refine ⟨_, rfl, ?_⟩
  replace HS : St W5 (owns []) W7 [] := HS.join (F := []) (G := []) H_
  clear H_
  refine ql (.bool false) (by kernel_rfl) (R_nbool (p := (rdI ds3 t0) < (0 : Int)) (by kernel_rfl) (by omega)) ?_
  refine wpList_nil ?_
  refine x_then ?_
  refine wp_cond_false (by kernel_rfl) ?_
  refine wp_skip ?_
  refine x_then ?_
  refine wp_seq ?_
  refine wp_region_lit ?_
  refine ql (.pointer (some ⟨g, 0, none⟩)) (by kernel_rfl) (by kernel_rfl) ?_
  refine qc (f := 17) (args := #[.pointer (some ⟨g, 0, none⟩)]) (by kernel_rfl) (R_call #[.pointer (some ⟨g, 0, none⟩)] Try.func17 (by kernel_rfl) (by kernel_rfl) (by kernel_rfl)) ?_
  refine (nodessome g N arcs _ (hG.below (HS.kept.below owns_nil))).mono ?_
  rintro e W8 ⟨rfl, H_⟩
  refine ⟨_, rfl, ?_⟩
  replace HS : St W5 (owns []) W8 [] := HS.join (F := []) (G := []) H_
  clear H_
  refine km HS (N) [.int .i64 0] 8 (by kernel_rfl) (k_eq (k := .i64) (m := (N : Int)) (by kernel_rfl) (by omega)) (k_eq (k := .i64) (m := (N : Int)) (by kernel_rfl) (by omega)) Try.underlying28 (by kernel_rfl) (by kernel_rfl) (by kernel_rfl) (by decide) (by omega) (by omega) ?_
  intro g9 W10 H_
  replace HS : St W5 (owns []) W10 [row (some ⟨g9, 0, none⟩) N N (ci .i64 (List.replicate (N) 0)) 3 1] := H_.cast_ (by rw [ci_rep]; rfl)
  clear H_
  have rlg9 : (List.replicate (N) (0 : Int)).length = N := List.length_replicate
  refine ql (.slice (some ⟨g9, 0, none⟩) N N) (by kernel_rfl) (by kernel_rfl) ?_
  refine wpList_nil ?_
  refine x_then ?_
  refine wp_seq ?_
  refine wp_region_lit ?_
  refine ql (.slice (some ⟨g9, 0, none⟩) N N) (by kernel_rfl) (by kernel_rfl) ?_
  refine ql (.int .i64 v) (by kernel_rfl) (by kernel_rfl) ?_
  refine ql (.pointer (some ⟨g9, v.toNat, none⟩)) (by kernel_rfl) (R_index1 (k := .i64) (g := g9) (n := N) (c := N) (i := v) (by kernel_rfl) (by kernel_rfl) Try.underlying28 (by kernel_rfl) (by omega) (by omega)) ?_
  refine kr (v := .int .i64 1) HS 0 rfl (v.toNat) [.int .i64 1] (by kernel_rfl) (by kernel_rfl) (by kernel_rfl) (by kernel_rfl) (by kernel_rfl) (one_ (by kernel_rfl)) (by rw [ci_len]; first | omega | (simp only [List.length_singleton]; omega)) rfl ?_
  intro W11 H_
  obtain ⟨xs12, xs12_⟩ : ∃ z_ : List Int, z_ = (List.replicate (N) 0).set v.toNat 1 := ⟨_, rfl⟩
  replace HS : St W5 (owns []) W11 [row (some ⟨g9, 0, none⟩) N N (ci .i64 xs12) 3 1] := H_.cast_ (by rw [xs12_, ← ci_set]; rfl)
  clear H_
  have xs12l : xs12.length = N := by rw [xs12_, List.length_set]; first | done | omega
  refine wpList_nil ?_
  refine x_then ?_
  refine wp_seq ?_
  refine wp_seq ?_
  refine wp_region_lit ?_
  refine ql (.int .i64 1) (by kernel_rfl) (by kernel_rfl) ?_
  refine wpList_nil ?_
  refine x_then ?_
  refine wp_block ?_
  have hst := cw_start hDh2 hv0 hv1 xs12_
  refine wp_loop_ghost (fun kq a' w' => ∃ (J13 : Nat → Value) (d : Int) (us : List Int) , a' = Fr ((.pointer (some ⟨g, 0, none⟩)) :: (.int .i64 v) :: (.int .i64 t0) :: undef :: undef :: undef :: (.int .i64 0) :: (.pointer (some ⟨t1, 0, none⟩)) :: (.slice (some ⟨g9, 0, none⟩) N N) :: (.int .i64 d) :: undef :: ((J13 11)) :: undef :: ((J13 13)) :: ((J13 14)) :: ((J13 15)) :: (.pointer (some ⟨g, 0, none⟩)) :: (.int .i64 v) :: (.pointer (some ⟨t1, 0, none⟩)) :: (.pointer (some ⟨t1, 0, none⟩)) :: (.int .i64 t0) :: (.int .i64 (rdI ds3 t0)) :: (.bool false) :: (.pointer (some ⟨g, 0, none⟩)) :: (.int .i64 (N : Int)) :: (.slice (some ⟨g9, 0, none⟩) N N) :: (.slice (some ⟨g9, 0, none⟩) N N) :: (.int .i64 v) :: (.pointer (some ⟨g9, v.toNat, none⟩)) :: ((J13 29)) :: ((J13 30)) :: ((J13 31)) :: ((J13 32)) :: ((J13 33)) :: ((J13 34)) :: ((J13 35)) :: ((J13 36)) :: ((J13 37)) :: ((J13 38)) :: ((J13 39)) :: ((J13 40)) :: ((J13 41)) :: ((J13 42)) :: ((J13 43)) :: ((J13 44)) :: ((J13 45)) :: ((J13 46)) :: ((J13 47)) :: ((J13 48)) :: ((J13 49)) :: ((J13 50)) :: ((J13 51)) :: ((J13 52)) :: ((J13 53)) :: ((J13 54)) :: ((J13 55)) :: ((J13 56)) :: ((J13 57)) :: ((J13 58)) :: ((J13 59)) :: ((J13 60)) :: ((J13 61)) :: ((J13 62)) :: ((J13 63)) :: ((J13 64)) :: ((J13 65)) :: ((J13 66)) :: ((J13 67)) :: ((J13 68)) :: ((J13 69)) :: ((J13 70)) :: ((J13 71)) :: ((J13 72)) :: ((J13 73)) :: ((J13 74)) :: ((J13 75)) :: ((J13 76)) :: ((J13 77)) :: ((J13 78)) :: ((J13 79)) :: ((J13 80)) :: undef :: undef :: undef :: undef :: []) ∧ kq = ((rdI ds3 t0 + 1 - d).toNat) ∧ (1 ≤ d) ∧ (d ≤ rdI ds3 t0 + 1) ∧ (cwO N arcs ds3 us d) ∧ St W5 (owns []) w' [row (some ⟨g9, 0, none⟩) N N (ci .i64 us) 3 1]) ((rdI ds3 t0 + 1 - (1 : Int)).toNat) ⟨(fun k_ : Nat => List.getD ((.pointer (some ⟨g, 0, none⟩)) :: (.int .i64 v) :: (.int .i64 t0) :: undef :: undef :: undef :: (.int .i64 0) :: (.pointer (some ⟨t1, 0, none⟩)) :: (.slice (some ⟨g9, 0, none⟩) N N) :: (.int .i64 1) :: undef :: undef :: undef :: undef :: undef :: undef :: (.pointer (some ⟨g, 0, none⟩)) :: (.int .i64 v) :: (.pointer (some ⟨t1, 0, none⟩)) :: (.pointer (some ⟨t1, 0, none⟩)) :: (.int .i64 t0) :: (.int .i64 (rdI ds3 t0)) :: (.bool false) :: (.pointer (some ⟨g, 0, none⟩)) :: (.int .i64 (N : Int)) :: (.slice (some ⟨g9, 0, none⟩) N N) :: (.slice (some ⟨g9, 0, none⟩) N N) :: (.int .i64 v) :: (.pointer (some ⟨g9, v.toNat, none⟩)) :: undef :: undef :: undef :: undef :: undef :: undef :: undef :: undef :: undef :: undef :: undef :: undef :: undef :: undef :: undef :: undef :: undef :: undef :: undef :: undef :: undef :: undef :: undef :: undef :: undef :: undef :: undef :: undef :: undef :: undef :: undef :: undef :: undef :: undef :: undef :: undef :: undef :: undef :: undef :: undef :: undef :: undef :: undef :: undef :: undef :: undef :: undef :: undef :: undef :: undef :: undef :: undef :: undef :: undef :: undef :: undef :: []) k_ undef), (1 : Int), xs12, congrArg Fr (by kernel_rfl), rfl, by omega, by omega, hst, HS⟩ ?_
  clear HS
  intro kq14 a' W15 hrel
  obtain ⟨J13, d, us, rfl, hk, d1, d2, hO, HS⟩ := hrel
  have hus := hO.1
  refine wp_seq ?_
  refine wp_seq ?_
  refine wp_region_lit ?_
  refine ql (.int .i64 d) (by kernel_rfl) (by kernel_rfl) ?_
  refine ql (.pointer (some ⟨t1, 0, none⟩)) (by kernel_rfl) (by kernel_rfl) ?_
  refine ql (.int .i64 t0) (by kernel_rfl) (by kernel_rfl) ?_
  refine qc (f := 31) (args := #[.pointer (some ⟨t1, 0, none⟩), .int .i64 t0]) (by kernel_rfl) (R_call #[.pointer (some ⟨t1, 0, none⟩), .int .i64 t0] Try.func31 (by kernel_rfl) (by kernel_rfl) (by kernel_rfl)) ?_
  refine (tdist_y t1 ds3 bs4 _ (hTh2.below (HS.kept.below owns_nil)) t0 (by omega) (by have h_ := hDh2.ld; omega)).mono ?_
  rintro e W16 ⟨rfl, H_⟩
  refine ⟨_, rfl, ?_⟩
  replace HS : St W5 (owns []) W16 [row (some ⟨g9, 0, none⟩) N N (ci .i64 us) 3 1] := HS.join (F := []) (G := []) H_
  clear H_
  by_cases hc17 : d ≤ (rdI ds3 t0)
  · skip
    refine ql (.bool true) (by kernel_rfl) (R_bool (p := d ≤ (rdI ds3 t0)) (by kernel_rfl) (hc17)) ?_
    refine wpList_nil ?_
    refine x_then ?_
    refine wp_cond_true (by kernel_rfl) ?_
    refine wp_skip ?_
    refine x_then ?_
    refine wp_seq ?_
    refine wp_block ?_
    refine wp_seq ?_
    have hLP := lay_p (d := d) hdl
    have hll := layr_leN hdl d
    refine wp_region_lit ?_
    refine ql (.pointer (some ⟨t1, 0, none⟩)) (by kernel_rfl) (by kernel_rfl) ?_
    refine ql (.int .i64 d) (by kernel_rfl) (by kernel_rfl) ?_
    refine qc (f := 36) (args := #[.pointer (some ⟨t1, 0, none⟩), .int .i64 d]) (by kernel_rfl) (R_call #[.pointer (some ⟨t1, 0, none⟩), .int .i64 d] Try.func36 (by kernel_rfl) (by kernel_rfl) (by kernel_rfl)) ?_
    refine (tlayer_y t1 ds3 bs4 _ (hTh2.below (HS.kept.below owns_nil)) d (by rw [hDh2.ld]; omega) (by omega)).mono ?_
    rintro e W20 ⟨A18, c19, rfl, H_⟩
    refine ⟨_, rfl, ?_⟩
    replace HS : St W5 (owns []) W20 [row A18 ((layr ds3 d ds3.length).length) c19 (ci .i64 (layr ds3 d ds3.length)) 3 1, row (some ⟨g9, 0, none⟩) N N (ci .i64 us) 3 1] := HS.join (F := []) (G := [row A18 ((layr ds3 d ds3.length).length) c19 (ci .i64 (layr ds3 d ds3.length)) 3 1]) H_
    clear H_
    refine ql (.int .i64 ((layr ds3 d ds3.length).length : Int)) (by kernel_rfl) (by kernel_rfl) ?_
    refine ql (.int .i64 0) (by kernel_rfl) (by kernel_rfl) ?_
    refine wpList_nil ?_
    refine x_then ?_
    refine wp_block ?_
    refine wp_loop_ghost (fun kq a' w' => ∃ (J21 : Nat → Value) (k : Int) (us1 : List Int) , a' = Fr ((.pointer (some ⟨g, 0, none⟩)) :: (.int .i64 v) :: (.int .i64 t0) :: undef :: undef :: undef :: (.int .i64 0) :: (.pointer (some ⟨t1, 0, none⟩)) :: (.slice (some ⟨g9, 0, none⟩) N N) :: (.int .i64 d) :: undef :: ((J21 11)) :: undef :: ((J21 13)) :: ((J21 14)) :: ((J21 15)) :: (.pointer (some ⟨g, 0, none⟩)) :: (.int .i64 v) :: (.pointer (some ⟨t1, 0, none⟩)) :: (.pointer (some ⟨t1, 0, none⟩)) :: (.int .i64 t0) :: (.int .i64 (rdI ds3 t0)) :: (.bool false) :: (.pointer (some ⟨g, 0, none⟩)) :: (.int .i64 (N : Int)) :: (.slice (some ⟨g9, 0, none⟩) N N) :: (.slice (some ⟨g9, 0, none⟩) N N) :: (.int .i64 v) :: (.pointer (some ⟨g9, v.toNat, none⟩)) :: (.int .i64 d) :: (.pointer (some ⟨t1, 0, none⟩)) :: (.int .i64 t0) :: (.int .i64 (rdI ds3 t0)) :: (.bool true) :: ((J13 34)) :: ((J13 35)) :: (.pointer (some ⟨t1, 0, none⟩)) :: (.int .i64 d) :: (.slice A18 ((layr ds3 d ds3.length).length) c19) :: (.int .i64 ((layr ds3 d ds3.length).length : Int)) :: (.int .i64 k) :: ((J21 41)) :: ((J21 42)) :: ((J21 43)) :: ((J21 44)) :: ((J21 45)) :: ((J21 46)) :: ((J21 47)) :: ((J21 48)) :: ((J21 49)) :: ((J21 50)) :: ((J21 51)) :: ((J21 52)) :: ((J21 53)) :: ((J21 54)) :: ((J21 55)) :: ((J21 56)) :: ((J21 57)) :: ((J21 58)) :: ((J21 59)) :: ((J21 60)) :: ((J21 61)) :: ((J21 62)) :: ((J21 63)) :: ((J21 64)) :: ((J21 65)) :: ((J21 66)) :: ((J21 67)) :: ((J21 68)) :: ((J21 69)) :: ((J21 70)) :: ((J21 71)) :: ((J21 72)) :: ((J21 73)) :: ((J21 74)) :: ((J21 75)) :: ((J21 76)) :: ((J21 77)) :: ((J21 78)) :: ((J21 79)) :: ((J21 80)) :: undef :: undef :: undef :: undef :: []) ∧ kq = ((layr ds3 d ds3.length).length - (k).toNat) ∧ (0 ≤ k) ∧ (k ≤ (layr ds3 d ds3.length).length) ∧ (cwL N arcs ds3 us1 (layr ds3 d ds3.length) d k) ∧ St W5 (owns []) w' [row A18 ((layr ds3 d ds3.length).length) c19 (ci .i64 (layr ds3 d ds3.length)) 3 1, row (some ⟨g9, 0, none⟩) N N (ci .i64 us1) 3 1]) ((layr ds3 d ds3.length).length - ((0 : Int)).toNat) ⟨(fun k_ : Nat => List.getD ((.pointer (some ⟨g, 0, none⟩)) :: (.int .i64 v) :: (.int .i64 t0) :: undef :: undef :: undef :: (.int .i64 0) :: (.pointer (some ⟨t1, 0, none⟩)) :: (.slice (some ⟨g9, 0, none⟩) N N) :: (.int .i64 d) :: undef :: ((J13 11)) :: undef :: ((J13 13)) :: ((J13 14)) :: ((J13 15)) :: (.pointer (some ⟨g, 0, none⟩)) :: (.int .i64 v) :: (.pointer (some ⟨t1, 0, none⟩)) :: (.pointer (some ⟨t1, 0, none⟩)) :: (.int .i64 t0) :: (.int .i64 (rdI ds3 t0)) :: (.bool false) :: (.pointer (some ⟨g, 0, none⟩)) :: (.int .i64 (N : Int)) :: (.slice (some ⟨g9, 0, none⟩) N N) :: (.slice (some ⟨g9, 0, none⟩) N N) :: (.int .i64 v) :: (.pointer (some ⟨g9, v.toNat, none⟩)) :: (.int .i64 d) :: (.pointer (some ⟨t1, 0, none⟩)) :: (.int .i64 t0) :: (.int .i64 (rdI ds3 t0)) :: (.bool true) :: ((J13 34)) :: ((J13 35)) :: (.pointer (some ⟨t1, 0, none⟩)) :: (.int .i64 d) :: (.slice A18 ((layr ds3 d ds3.length).length) c19) :: (.int .i64 ((layr ds3 d ds3.length).length : Int)) :: (.int .i64 0) :: ((J13 41)) :: ((J13 42)) :: ((J13 43)) :: ((J13 44)) :: ((J13 45)) :: ((J13 46)) :: ((J13 47)) :: ((J13 48)) :: ((J13 49)) :: ((J13 50)) :: ((J13 51)) :: ((J13 52)) :: ((J13 53)) :: ((J13 54)) :: ((J13 55)) :: ((J13 56)) :: ((J13 57)) :: ((J13 58)) :: ((J13 59)) :: ((J13 60)) :: ((J13 61)) :: ((J13 62)) :: ((J13 63)) :: ((J13 64)) :: ((J13 65)) :: ((J13 66)) :: ((J13 67)) :: ((J13 68)) :: ((J13 69)) :: ((J13 70)) :: ((J13 71)) :: ((J13 72)) :: ((J13 73)) :: ((J13 74)) :: ((J13 75)) :: ((J13 76)) :: ((J13 77)) :: ((J13 78)) :: ((J13 79)) :: ((J13 80)) :: undef :: undef :: undef :: undef :: []) k_ undef), (0 : Int), us, congrArg Fr (by kernel_rfl), rfl, by omega, by omega, cw_in hO, HS⟩ ?_
    clear HS
    intro kq22 a' W23 hrel
    obtain ⟨J21, k, us1, rfl, hk, k0, k1, hL1, HS⟩ := hrel
    have hus1 := hL1.1
    refine wp_seq ?_
    refine wp_region_lit ?_
    by_cases hc24 : k < ((layr ds3 d ds3.length).length : Int)
    · skip
      refine ql (.bool true) (by kernel_rfl) (R_bool (p := k < ((layr ds3 d ds3.length).length : Int)) (by kernel_rfl) (hc24)) ?_
      refine wpList_nil ?_
      refine x_then ?_
      refine wp_seq ?_
      refine wp_cond_true (by kernel_rfl) ?_
      refine wp_skip ?_
      refine x_then ?_
      refine wp_seq ?_
      refine wp_block ?_
      refine wp_seq ?_
      refine wp_region_lit ?_
      obtain ⟨g25, rfl⟩ := St.rsome HS (i := 0) rfl (by omega)
      refine ql (.pointer (some ⟨g25, k.toNat, none⟩)) (by kernel_rfl) (R_index1 (k := .i64) (g := g25) (n := ((layr ds3 d ds3.length).length)) (c := c19) (i := k) (by kernel_rfl) (by kernel_rfl) Try.underlying28 (by kernel_rfl) (by omega) (by omega)) ?_
      refine ql (.int .i64 (rdI (layr ds3 d ds3.length) k)) (by kernel_rfl) (R_load (p := ⟨g25, k.toNat, none⟩) (by kernel_rfl) (by kernel_rfl) (by kernel_rfl) (HS.rcell (i := 0) rfl (ci_rd (i := k) (by omega) (by omega)))) ?_
      refine ql (.int .i64 (rdI (layr ds3 d ds3.length) k)) (by kernel_rfl) (by kernel_rfl) ?_
      refine wpList_nil ?_
      refine x_then ?_
      refine wp_seq ?_
      have hxu := hLP.of _ (rdI_in k0 (by omega))
      refine wp_region_lit ?_
      refine ql (.pointer (some ⟨g, 0, none⟩)) (by kernel_rfl) (by kernel_rfl) ?_
      refine ql (.int .i64 (rdI (layr ds3 d ds3.length) k)) (by kernel_rfl) (by kernel_rfl) ?_
      refine qc (f := 20) (args := #[.pointer (some ⟨g, 0, none⟩), .int .i64 (rdI (layr ds3 d ds3.length) k)]) (by kernel_rfl) (R_call #[.pointer (some ⟨g, 0, none⟩), .int .i64 (rdI (layr ds3 d ds3.length) k)] Try.func20 (by kernel_rfl) (by kernel_rfl) (by kernel_rfl)) ?_
      refine (in_yes g N arcs _ (hG.below (HS.kept.below owns_nil)) (rdI (layr ds3 d ds3.length) k) (by omega) (by omega)).mono ?_
      rintro e W28 ⟨A26, c27, rfl, H_⟩
      refine ⟨_, rfl, ?_⟩
      replace HS : St W5 (owns []) W28 [row A26 ((idxs (keys true arcs) (rdI (layr ds3 d ds3.length) k)).length) c27 (ci .i64 (idxs (keys true arcs) (rdI (layr ds3 d ds3.length) k))) 3 1, row (some ⟨g25, 0, none⟩) ((layr ds3 d ds3.length).length) c19 (ci .i64 (layr ds3 d ds3.length)) 3 1, row (some ⟨g9, 0, none⟩) N N (ci .i64 us1) 3 1] := HS.join (F := []) (G := [row A26 ((idxs (keys true arcs) (rdI (layr ds3 d ds3.length) k)).length) c27 (ci .i64 (idxs (keys true arcs) (rdI (layr ds3 d ds3.length) k))) 3 1]) H_
      clear H_
      refine ql (.int .i64 ((idxs (keys true arcs) (rdI (layr ds3 d ds3.length) k)).length : Int)) (by kernel_rfl) (by kernel_rfl) ?_
      refine ql (.int .i64 0) (by kernel_rfl) (by kernel_rfl) ?_
      refine wpList_nil ?_
      refine x_then ?_
      refine wp_block ?_
      have hqi := idxs_le true arcs (rdI (layr ds3 d ds3.length) k)
      refine wp_loop_ghost (fun kq a' w' => ∃ (J29 : Nat → Value) (q : Int) (us2 : List Int) , a' = Fr ((.pointer (some ⟨g, 0, none⟩)) :: (.int .i64 v) :: (.int .i64 t0) :: undef :: undef :: undef :: (.int .i64 0) :: (.pointer (some ⟨t1, 0, none⟩)) :: (.slice (some ⟨g9, 0, none⟩) N N) :: (.int .i64 d) :: undef :: (.int .i64 (rdI (layr ds3 d ds3.length) k)) :: undef :: ((J29 13)) :: ((J29 14)) :: ((J29 15)) :: (.pointer (some ⟨g, 0, none⟩)) :: (.int .i64 v) :: (.pointer (some ⟨t1, 0, none⟩)) :: (.pointer (some ⟨t1, 0, none⟩)) :: (.int .i64 t0) :: (.int .i64 (rdI ds3 t0)) :: (.bool false) :: (.pointer (some ⟨g, 0, none⟩)) :: (.int .i64 (N : Int)) :: (.slice (some ⟨g9, 0, none⟩) N N) :: (.slice (some ⟨g9, 0, none⟩) N N) :: (.int .i64 v) :: (.pointer (some ⟨g9, v.toNat, none⟩)) :: (.int .i64 d) :: (.pointer (some ⟨t1, 0, none⟩)) :: (.int .i64 t0) :: (.int .i64 (rdI ds3 t0)) :: (.bool true) :: ((J13 34)) :: ((J13 35)) :: (.pointer (some ⟨t1, 0, none⟩)) :: (.int .i64 d) :: (.slice (some ⟨g25, 0, none⟩) ((layr ds3 d ds3.length).length) c19) :: (.int .i64 ((layr ds3 d ds3.length).length : Int)) :: (.int .i64 k) :: (.bool true) :: (.pointer (some ⟨g25, k.toNat, none⟩)) :: (.int .i64 (rdI (layr ds3 d ds3.length) k)) :: (.pointer (some ⟨g, 0, none⟩)) :: (.int .i64 (rdI (layr ds3 d ds3.length) k)) :: (.slice A26 ((idxs (keys true arcs) (rdI (layr ds3 d ds3.length) k)).length) c27) :: (.int .i64 ((idxs (keys true arcs) (rdI (layr ds3 d ds3.length) k)).length : Int)) :: (.int .i64 q) :: ((J29 49)) :: ((J29 50)) :: ((J29 51)) :: ((J29 52)) :: ((J29 53)) :: ((J29 54)) :: ((J29 55)) :: ((J29 56)) :: ((J29 57)) :: ((J29 58)) :: ((J29 59)) :: ((J29 60)) :: ((J29 61)) :: ((J29 62)) :: ((J29 63)) :: ((J29 64)) :: ((J29 65)) :: ((J29 66)) :: ((J29 67)) :: ((J29 68)) :: ((J29 69)) :: ((J29 70)) :: ((J29 71)) :: ((J29 72)) :: ((J29 73)) :: ((J29 74)) :: ((J29 75)) :: ((J29 76)) :: ((J29 77)) :: ((J29 78)) :: ((J29 79)) :: ((J21 80)) :: undef :: undef :: undef :: undef :: []) ∧ kq = ((idxs (keys true arcs) (rdI (layr ds3 d ds3.length) k)).length - (q).toNat) ∧ (0 ≤ q) ∧ (q ≤ (idxs (keys true arcs) (rdI (layr ds3 d ds3.length) k)).length) ∧ (cwQ N arcs ds3 us2 (layr ds3 d ds3.length) d k (rdI (layr ds3 d ds3.length) k) q) ∧ St W5 (owns []) w' [row A26 ((idxs (keys true arcs) (rdI (layr ds3 d ds3.length) k)).length) c27 (ci .i64 (idxs (keys true arcs) (rdI (layr ds3 d ds3.length) k))) 3 1, row (some ⟨g25, 0, none⟩) ((layr ds3 d ds3.length).length) c19 (ci .i64 (layr ds3 d ds3.length)) 3 1, row (some ⟨g9, 0, none⟩) N N (ci .i64 us2) 3 1]) ((idxs (keys true arcs) (rdI (layr ds3 d ds3.length) k)).length - ((0 : Int)).toNat) ⟨(fun k_ : Nat => List.getD ((.pointer (some ⟨g, 0, none⟩)) :: (.int .i64 v) :: (.int .i64 t0) :: undef :: undef :: undef :: (.int .i64 0) :: (.pointer (some ⟨t1, 0, none⟩)) :: (.slice (some ⟨g9, 0, none⟩) N N) :: (.int .i64 d) :: undef :: (.int .i64 (rdI (layr ds3 d ds3.length) k)) :: undef :: ((J21 13)) :: ((J21 14)) :: ((J21 15)) :: (.pointer (some ⟨g, 0, none⟩)) :: (.int .i64 v) :: (.pointer (some ⟨t1, 0, none⟩)) :: (.pointer (some ⟨t1, 0, none⟩)) :: (.int .i64 t0) :: (.int .i64 (rdI ds3 t0)) :: (.bool false) :: (.pointer (some ⟨g, 0, none⟩)) :: (.int .i64 (N : Int)) :: (.slice (some ⟨g9, 0, none⟩) N N) :: (.slice (some ⟨g9, 0, none⟩) N N) :: (.int .i64 v) :: (.pointer (some ⟨g9, v.toNat, none⟩)) :: (.int .i64 d) :: (.pointer (some ⟨t1, 0, none⟩)) :: (.int .i64 t0) :: (.int .i64 (rdI ds3 t0)) :: (.bool true) :: ((J13 34)) :: ((J13 35)) :: (.pointer (some ⟨t1, 0, none⟩)) :: (.int .i64 d) :: (.slice (some ⟨g25, 0, none⟩) ((layr ds3 d ds3.length).length) c19) :: (.int .i64 ((layr ds3 d ds3.length).length : Int)) :: (.int .i64 k) :: (.bool true) :: (.pointer (some ⟨g25, k.toNat, none⟩)) :: (.int .i64 (rdI (layr ds3 d ds3.length) k)) :: (.pointer (some ⟨g, 0, none⟩)) :: (.int .i64 (rdI (layr ds3 d ds3.length) k)) :: (.slice A26 ((idxs (keys true arcs) (rdI (layr ds3 d ds3.length) k)).length) c27) :: (.int .i64 ((idxs (keys true arcs) (rdI (layr ds3 d ds3.length) k)).length : Int)) :: (.int .i64 0) :: ((J21 49)) :: ((J21 50)) :: ((J21 51)) :: ((J21 52)) :: ((J21 53)) :: ((J21 54)) :: ((J21 55)) :: ((J21 56)) :: ((J21 57)) :: ((J21 58)) :: ((J21 59)) :: ((J21 60)) :: ((J21 61)) :: ((J21 62)) :: ((J21 63)) :: ((J21 64)) :: ((J21 65)) :: ((J21 66)) :: ((J21 67)) :: ((J21 68)) :: ((J21 69)) :: ((J21 70)) :: ((J21 71)) :: ((J21 72)) :: ((J21 73)) :: ((J21 74)) :: ((J21 75)) :: ((J21 76)) :: ((J21 77)) :: ((J21 78)) :: ((J21 79)) :: ((J21 80)) :: undef :: undef :: undef :: undef :: []) k_ undef), (0 : Int), us1, congrArg Fr (by kernel_rfl), rfl, by omega, by omega, cw_q0 hL1 _, HS⟩ ?_
      clear HS
      intro kq30 a' W31 hrel
      obtain ⟨J29, q, us2, rfl, hk, q0, q1, hQ, HS⟩ := hrel
      have hus2 := hQ.1
      refine wp_seq ?_
      refine wp_region_lit ?_
      by_cases hc32 : q < ((idxs (keys true arcs) (rdI (layr ds3 d ds3.length) k)).length : Int)
      · skip
        refine ql (.bool true) (by kernel_rfl) (R_bool (p := q < ((idxs (keys true arcs) (rdI (layr ds3 d ds3.length) k)).length : Int)) (by kernel_rfl) (hc32)) ?_
        refine wpList_nil ?_
        refine x_then ?_
        refine wp_seq ?_
        refine wp_cond_true (by kernel_rfl) ?_
        refine wp_skip ?_
        refine x_then ?_
        refine wp_seq ?_
        refine wp_block ?_
        refine wp_seq ?_
        refine wp_region_lit ?_
        obtain ⟨g33, rfl⟩ := St.rsome HS (i := 0) rfl (by omega)
        refine ql (.pointer (some ⟨g33, q.toNat, none⟩)) (by kernel_rfl) (R_index1 (k := .i64) (g := g33) (n := ((idxs (keys true arcs) (rdI (layr ds3 d ds3.length) k)).length)) (c := c27) (i := q) (by kernel_rfl) (by kernel_rfl) Try.underlying28 (by kernel_rfl) (by omega) (by omega)) ?_
        refine ql (.int .i64 (rdI (idxs (keys true arcs) (rdI (layr ds3 d ds3.length) k)) q)) (by kernel_rfl) (R_load (p := ⟨g33, q.toNat, none⟩) (by kernel_rfl) (by kernel_rfl) (by kernel_rfl) (HS.rcell (i := 0) rfl (ci_rd (i := q) (by omega) (by omega)))) ?_
        refine ql (.int .i64 (rdI (idxs (keys true arcs) (rdI (layr ds3 d ds3.length) k)) q)) (by kernel_rfl) (by kernel_rfl) ?_
        refine wpList_nil ?_
        refine x_then ?_
        refine wp_seq ?_
        have hti := mem_idxsT.1 (rdI_in (xs := (idxs (keys true arcs) (rdI (layr ds3 d ds3.length) k))) q0 (by omega))
        have hfi := gx_fine hF hti.1 hti.2.1
        have hcr := cw_range hQ hLP k0 (by omega)
        refine wp_region_lit ?_
        refine ql (.pointer (some ⟨g, 0, none⟩)) (by kernel_rfl) (by kernel_rfl) ?_
        refine ql (.int .i64 (rdI (idxs (keys true arcs) (rdI (layr ds3 d ds3.length) k)) q)) (by kernel_rfl) (by kernel_rfl) ?_
        refine qc (f := 22) (args := #[.pointer (some ⟨g, 0, none⟩), .int .i64 (rdI (idxs (keys true arcs) (rdI (layr ds3 d ds3.length) k)) q)]) (by kernel_rfl) (R_call #[.pointer (some ⟨g, 0, none⟩), .int .i64 (rdI (idxs (keys true arcs) (rdI (layr ds3 d ds3.length) k)) q)] Try.func22 (by kernel_rfl) (by kernel_rfl) (by kernel_rfl)) ?_
        refine (arc_yes g N arcs _ (hG.below (HS.kept.below owns_nil)) (rdI (idxs (keys true arcs) (rdI (layr ds3 d ds3.length) k)) q) hti.1 hti.2.1).mono ?_
        rintro e W34 ⟨rfl, H_⟩
        refine ⟨_, rfl, ?_⟩
        replace HS : St W5 (owns []) W34 [row (some ⟨g33, 0, none⟩) ((idxs (keys true arcs) (rdI (layr ds3 d ds3.length) k)).length) c27 (ci .i64 (idxs (keys true arcs) (rdI (layr ds3 d ds3.length) k))) 3 1, row (some ⟨g25, 0, none⟩) ((layr ds3 d ds3.length).length) c19 (ci .i64 (layr ds3 d ds3.length)) 3 1, row (some ⟨g9, 0, none⟩) N N (ci .i64 us2) 3 1] := HS.join (F := []) (G := []) H_
        clear H_
        refine ql (.tuple #[.agg #[.int .i64 ((gx arcs (rdI (idxs (keys true arcs) (rdI (layr ds3 d ds3.length) k)) q)).1), .int .i64 ((gx arcs (rdI (idxs (keys true arcs) (rdI (layr ds3 d ds3.length) k)) q)).2)], .bool true]) (by kernel_rfl) (by kernel_rfl) ?_
        refine ql (.agg #[.int .i64 ((gx arcs (rdI (idxs (keys true arcs) (rdI (layr ds3 d ds3.length) k)) q)).1), .int .i64 ((gx arcs (rdI (idxs (keys true arcs) (rdI (layr ds3 d ds3.length) k)) q)).2)]) (by kernel_rfl) (by kernel_rfl) ?_
        refine ql (.bool true) (by kernel_rfl) (by kernel_rfl) ?_
        refine kb HS [.int .i64 0, .int .i64 0] 35 (fun g => .pointer (some ⟨g, 0, none⟩)) (by kernel_rfl) (by kernel_rfl) ?_
        intro g35 W36 H_
        replace HS : St W5 (owns []) W36 [blk g35 [.int .i64 0, .int .i64 0] 35, row (some ⟨g33, 0, none⟩) ((idxs (keys true arcs) (rdI (layr ds3 d ds3.length) k)).length) c27 (ci .i64 (idxs (keys true arcs) (rdI (layr ds3 d ds3.length) k))) 3 1, row (some ⟨g25, 0, none⟩) ((layr ds3 d ds3.length).length) c19 (ci .i64 (layr ds3 d ds3.length)) 3 1, row (some ⟨g9, 0, none⟩) N N (ci .i64 us2) 3 1] := H_
        clear H_
        refine ks (v := .agg #[.int .i64 ((gx arcs (rdI (idxs (keys true arcs) (rdI (layr ds3 d ds3.length) k)) q)).1), .int .i64 ((gx arcs (rdI (idxs (keys true arcs) (rdI (layr ds3 d ds3.length) k)) q)).2)]) HS 0 rfl (0) [.int .i64 ((gx arcs (rdI (idxs (keys true arcs) (rdI (layr ds3 d ds3.length) k)) q)).1), .int .i64 ((gx arcs (rdI (idxs (keys true arcs) (rdI (layr ds3 d ds3.length) k)) q)).2)] (by kernel_rfl) (by kernel_rfl) (by kernel_rfl) (by kernel_rfl) (by kernel_rfl) (one_ (by kernel_rfl)) (Nat.le_of_ble_eq_true rfl) rfl ?_
        intro W37 H_
        replace HS : St W5 (owns []) W37 [blk g35 [.int .i64 ((gx arcs (rdI (idxs (keys true arcs) (rdI (layr ds3 d ds3.length) k)) q)).1), .int .i64 ((gx arcs (rdI (idxs (keys true arcs) (rdI (layr ds3 d ds3.length) k)) q)).2)] 35, row (some ⟨g33, 0, none⟩) ((idxs (keys true arcs) (rdI (layr ds3 d ds3.length) k)).length) c27 (ci .i64 (idxs (keys true arcs) (rdI (layr ds3 d ds3.length) k))) 3 1, row (some ⟨g25, 0, none⟩) ((layr ds3 d ds3.length).length) c19 (ci .i64 (layr ds3 d ds3.length)) 3 1, row (some ⟨g9, 0, none⟩) N N (ci .i64 us2) 3 1] := H_
        clear H_
        refine ql (.bool true) (by kernel_rfl) (by kernel_rfl) ?_
        refine wpList_nil ?_
        refine x_then ?_
        refine wp_seq ?_
        refine wp_region_lit ?_
        refine ql (.pointer (some ⟨t1, 0, none⟩)) (by kernel_rfl) (by kernel_rfl) ?_
        refine ql (.pointer (some ⟨g35, 0, none⟩)) (by kernel_rfl) (by kernel_rfl) ?_
        refine ql (.int .i64 ((gx arcs (rdI (idxs (keys true arcs) (rdI (layr ds3 d ds3.length) k)) q)).1)) (by kernel_rfl) (R_load (p := ⟨g35, 0, none⟩) (by kernel_rfl) (by kernel_rfl) (by kernel_rfl) (HS.cell (i := 0) (j := 0) rfl rfl)) ?_
        refine qc (f := 31) (args := #[.pointer (some ⟨t1, 0, none⟩), .int .i64 ((gx arcs (rdI (idxs (keys true arcs) (rdI (layr ds3 d ds3.length) k)) q)).1)]) (by kernel_rfl) (R_call #[.pointer (some ⟨t1, 0, none⟩), .int .i64 ((gx arcs (rdI (idxs (keys true arcs) (rdI (layr ds3 d ds3.length) k)) q)).1)] Try.func31 (by kernel_rfl) (by kernel_rfl) (by kernel_rfl)) ?_
        refine (tdist_y t1 ds3 bs4 _ (hTh2.below (HS.kept.below owns_nil)) ((gx arcs (rdI (idxs (keys true arcs) (rdI (layr ds3 d ds3.length) k)) q)).1) (by omega) (by have h_ := hDh2.ld; omega)).mono ?_
        rintro e W38 ⟨rfl, H_⟩
        refine ⟨_, rfl, ?_⟩
        replace HS : St W5 (owns []) W38 [blk g35 [.int .i64 ((gx arcs (rdI (idxs (keys true arcs) (rdI (layr ds3 d ds3.length) k)) q)).1), .int .i64 ((gx arcs (rdI (idxs (keys true arcs) (rdI (layr ds3 d ds3.length) k)) q)).2)] 35, row (some ⟨g33, 0, none⟩) ((idxs (keys true arcs) (rdI (layr ds3 d ds3.length) k)).length) c27 (ci .i64 (idxs (keys true arcs) (rdI (layr ds3 d ds3.length) k))) 3 1, row (some ⟨g25, 0, none⟩) ((layr ds3 d ds3.length).length) c19 (ci .i64 (layr ds3 d ds3.length)) 3 1, row (some ⟨g9, 0, none⟩) N N (ci .i64 us2) 3 1] := HS.join (F := []) (G := []) H_
        clear H_
        refine ql (.int .i64 d) (by kernel_rfl) (by kernel_rfl) ?_
        refine ql (.int .i64 (d - 1)) (by kernel_rfl) (R_int (by kernel_rfl) (w64 (by omega))) ?_
        by_cases hc39 : (rdI ds3 ((gx arcs (rdI (idxs (keys true arcs) (rdI (layr ds3 d ds3.length) k)) q)).1)) = (d - 1)
        · skip
          refine ql (.bool true) (by kernel_rfl) (R_beq (b := (rdI ds3 ((gx arcs (rdI (idxs (keys true arcs) (rdI (layr ds3 d ds3.length) k)) q)).1) == d - 1)) (by kernel_rfl) (beq_t (hc39))) ?_
          refine wpList_nil ?_
          refine x_then ?_
          refine wp_cond_true (by kernel_rfl) ?_
          have hcf := cw_from hQ hfi.1 hfi.2.1 d1 hc39
          have hnr := nwc_range arcs ds3 (d - 1).toNat (gx arcs (rdI (idxs (keys true arcs) (rdI (layr ds3 d ds3.length) k)) q)).1
          refine rg_still HS 14 (by kernel_rfl) (by kernel_rfl) ?_
          intro W40 H_ HK_
          simp only [List.take_succ_cons, List.take_zero, List.drop_succ_cons, List.drop_zero]
          replace HS : St W5 (owns []) W40 [blk g35 [.int .i64 ((gx arcs (rdI (idxs (keys true arcs) (rdI (layr ds3 d ds3.length) k)) q)).1), .int .i64 ((gx arcs (rdI (idxs (keys true arcs) (rdI (layr ds3 d ds3.length) k)) q)).2)] 35, row (some ⟨g33, 0, none⟩) ((idxs (keys true arcs) (rdI (layr ds3 d ds3.length) k)).length) c27 (ci .i64 (idxs (keys true arcs) (rdI (layr ds3 d ds3.length) k))) 3 1, row (some ⟨g25, 0, none⟩) ((layr ds3 d ds3.length).length) c19 (ci .i64 (layr ds3 d ds3.length)) 3 1, row (some ⟨g9, 0, none⟩) N N (ci .i64 us2) 3 1] := H_
          clear H_
          clear HK_
          refine qs (.slice (some ⟨g9, 0, none⟩) N N) (by kernel_rfl) (by kernel_rfl) ?_
          refine qs (.int .i64 (rdI (layr ds3 d ds3.length) k)) (by kernel_rfl) (by kernel_rfl) ?_
          refine qs (.slice (some ⟨g9, 0, none⟩) N N) (by kernel_rfl) (by kernel_rfl) ?_
          refine qs (.int .i64 (rdI (layr ds3 d ds3.length) k)) (by kernel_rfl) (by kernel_rfl) ?_
          refine qs (.pointer (some ⟨g9, (rdI (layr ds3 d ds3.length) k).toNat, none⟩)) (by kernel_rfl) (R_index1 (k := .i64) (g := g9) (n := N) (c := N) (i := rdI (layr ds3 d ds3.length) k) (by kernel_rfl) (by kernel_rfl) Try.underlying28 (by kernel_rfl) (by omega) (by omega)) ?_
          refine qs (.int .i64 (rdI us2 (rdI (layr ds3 d ds3.length) k))) (by kernel_rfl) (R_load (p := ⟨g9, (rdI (layr ds3 d ds3.length) k).toNat, none⟩) (by kernel_rfl) (by kernel_rfl) (by kernel_rfl) (HS.rcell (i := 3) rfl (ci_rd (i := rdI (layr ds3 d ds3.length) k) (by omega) (by omega)))) ?_
          refine qs (.slice (some ⟨g9, 0, none⟩) N N) (by kernel_rfl) (by kernel_rfl) ?_
          refine qs (.pointer (some ⟨g35, 0, none⟩)) (by kernel_rfl) (by kernel_rfl) ?_
          refine qs (.int .i64 ((gx arcs (rdI (idxs (keys true arcs) (rdI (layr ds3 d ds3.length) k)) q)).1)) (by kernel_rfl) (R_load (p := ⟨g35, 0, none⟩) (by kernel_rfl) (by kernel_rfl) (by kernel_rfl) (HS.cell (i := 0) (j := 0) rfl rfl)) ?_
          refine qs (.pointer (some ⟨g9, ((gx arcs (rdI (idxs (keys true arcs) (rdI (layr ds3 d ds3.length) k)) q)).1).toNat, none⟩)) (by kernel_rfl) (R_index1 (k := .i64) (g := g9) (n := N) (c := N) (i := (gx arcs (rdI (idxs (keys true arcs) (rdI (layr ds3 d ds3.length) k)) q)).1) (by kernel_rfl) (by kernel_rfl) Try.underlying28 (by kernel_rfl) (by omega) (by omega)) ?_
          refine qs (.int .i64 (rdI us2 ((gx arcs (rdI (idxs (keys true arcs) (rdI (layr ds3 d ds3.length) k)) q)).1))) (by kernel_rfl) (R_load (p := ⟨g9, ((gx arcs (rdI (idxs (keys true arcs) (rdI (layr ds3 d ds3.length) k)) q)).1).toNat, none⟩) (by kernel_rfl) (by kernel_rfl) (by kernel_rfl) (HS.rcell (i := 3) rfl (ci_rd (i := (gx arcs (rdI (idxs (keys true arcs) (rdI (layr ds3 d ds3.length) k)) q)).1) (by omega) (by omega)))) ?_
          refine qs (.int .i64 ((rdI us2 (rdI (layr ds3 d ds3.length) k)) + (rdI us2 ((gx arcs (rdI (idxs (keys true arcs) (rdI (layr ds3 d ds3.length) k)) q)).1)))) (by kernel_rfl) (R_int (by kernel_rfl) (w64 (by omega))) ?_
          refine qs (.int .i64 (min ((rdI us2 (rdI (layr ds3 d ds3.length) k)) + (rdI us2 ((gx arcs (rdI (idxs (keys true arcs) (rdI (layr ds3 d ds3.length) k)) q)).1))) (1048576 : Int))) (by kernel_rfl) (R_min (i := (rdI us2 (rdI (layr ds3 d ds3.length) k)) + (rdI us2 ((gx arcs (rdI (idxs (keys true arcs) (rdI (layr ds3 d ds3.length) k)) q)).1))) (j := 1048576) (by kernel_rfl) (by kernel_rfl)) ?_
          refine qs (.pointer (some ⟨g9, (rdI (layr ds3 d ds3.length) k).toNat, none⟩)) (by kernel_rfl) (R_index1 (k := .i64) (g := g9) (n := N) (c := N) (i := rdI (layr ds3 d ds3.length) k) (by kernel_rfl) (by kernel_rfl) Try.underlying28 (by kernel_rfl) (by omega) (by omega)) ?_
          refine wpStill_nil ?_
          refine kr (v := .int .i64 (min ((rdI us2 (rdI (layr ds3 d ds3.length) k)) + (rdI us2 ((gx arcs (rdI (idxs (keys true arcs) (rdI (layr ds3 d ds3.length) k)) q)).1))) (1048576 : Int))) HS 3 rfl ((rdI (layr ds3 d ds3.length) k).toNat) [.int .i64 (min ((rdI us2 (rdI (layr ds3 d ds3.length) k)) + (rdI us2 ((gx arcs (rdI (idxs (keys true arcs) (rdI (layr ds3 d ds3.length) k)) q)).1))) (1048576 : Int))] (by kernel_rfl) (by kernel_rfl) (by kernel_rfl) (by kernel_rfl) (by kernel_rfl) (one_ (by kernel_rfl)) (by rw [ci_len]; first | omega | (simp only [List.length_singleton]; omega)) rfl ?_
          intro W41 H_
          obtain ⟨xs42, xs42_⟩ : ∃ z_ : List Int, z_ = (us2).set (rdI (layr ds3 d ds3.length) k).toNat (min ((rdI us2 (rdI (layr ds3 d ds3.length) k)) + (rdI us2 ((gx arcs (rdI (idxs (keys true arcs) (rdI (layr ds3 d ds3.length) k)) q)).1))) (1048576 : Int)) := ⟨_, rfl⟩
          replace HS : St W5 (owns []) W41 [blk g35 [.int .i64 ((gx arcs (rdI (idxs (keys true arcs) (rdI (layr ds3 d ds3.length) k)) q)).1), .int .i64 ((gx arcs (rdI (idxs (keys true arcs) (rdI (layr ds3 d ds3.length) k)) q)).2)] 35, row (some ⟨g33, 0, none⟩) ((idxs (keys true arcs) (rdI (layr ds3 d ds3.length) k)).length) c27 (ci .i64 (idxs (keys true arcs) (rdI (layr ds3 d ds3.length) k))) 3 1, row (some ⟨g25, 0, none⟩) ((layr ds3 d ds3.length).length) c19 (ci .i64 (layr ds3 d ds3.length)) 3 1, row (some ⟨g9, 0, none⟩) N N (ci .i64 xs42) 3 1] := H_.cast_ (by rw [xs42_, ← ci_set]; rfl)
          clear H_
          have xs42l : xs42.length = N := by rw [xs42_, List.length_set]; first | done | omega
          refine wpList_nil ?_
          refine x_inb ?_
          refine x_then ?_
          refine wp_region_lit ?_
          refine ql (.int .i64 (q + 1)) (by kernel_rfl) (R_int (by kernel_rfl) (w64 (by omega))) ?_
          refine ql (.int .i64 (q + 1)) (by kernel_rfl) (by kernel_rfl) ?_
          refine wpList_nil ?_
          replace HS := HS.drop1
          have hst := cw_eq hF hQ hLP k0 (by omega) d1 q0 (by omega) hc39 xs42_
          refine x_then ?_
          exact ⟨(idxs (keys true arcs) (rdI (layr ds3 d ds3.length) k)).length - (q + 1).toNat, by omega, (fun k_ : Nat => List.getD ((.pointer (some ⟨g, 0, none⟩)) :: (.int .i64 v) :: (.int .i64 t0) :: undef :: undef :: undef :: (.int .i64 0) :: (.pointer (some ⟨t1, 0, none⟩)) :: (.slice (some ⟨g9, 0, none⟩) N N) :: (.int .i64 d) :: undef :: (.int .i64 (rdI (layr ds3 d ds3.length) k)) :: undef :: (.int .i64 (rdI (idxs (keys true arcs) (rdI (layr ds3 d ds3.length) k)) q)) :: (.pointer (some ⟨g35, 0, none⟩)) :: (.bool true) :: (.pointer (some ⟨g, 0, none⟩)) :: (.int .i64 v) :: (.pointer (some ⟨t1, 0, none⟩)) :: (.pointer (some ⟨t1, 0, none⟩)) :: (.int .i64 t0) :: (.int .i64 (rdI ds3 t0)) :: (.bool false) :: (.pointer (some ⟨g, 0, none⟩)) :: (.int .i64 (N : Int)) :: (.slice (some ⟨g9, 0, none⟩) N N) :: (.slice (some ⟨g9, 0, none⟩) N N) :: (.int .i64 v) :: (.pointer (some ⟨g9, v.toNat, none⟩)) :: (.int .i64 d) :: (.pointer (some ⟨t1, 0, none⟩)) :: (.int .i64 t0) :: (.int .i64 (rdI ds3 t0)) :: (.bool true) :: ((J13 34)) :: ((J13 35)) :: (.pointer (some ⟨t1, 0, none⟩)) :: (.int .i64 d) :: (.slice (some ⟨g25, 0, none⟩) ((layr ds3 d ds3.length).length) c19) :: (.int .i64 ((layr ds3 d ds3.length).length : Int)) :: (.int .i64 k) :: (.bool true) :: (.pointer (some ⟨g25, k.toNat, none⟩)) :: (.int .i64 (rdI (layr ds3 d ds3.length) k)) :: (.pointer (some ⟨g, 0, none⟩)) :: (.int .i64 (rdI (layr ds3 d ds3.length) k)) :: (.slice (some ⟨g33, 0, none⟩) ((idxs (keys true arcs) (rdI (layr ds3 d ds3.length) k)).length) c27) :: (.int .i64 ((idxs (keys true arcs) (rdI (layr ds3 d ds3.length) k)).length : Int)) :: (.int .i64 (q + 1)) :: (.bool true) :: (.pointer (some ⟨g33, q.toNat, none⟩)) :: (.int .i64 (rdI (idxs (keys true arcs) (rdI (layr ds3 d ds3.length) k)) q)) :: (.tuple #[.agg #[.int .i64 ((gx arcs (rdI (idxs (keys true arcs) (rdI (layr ds3 d ds3.length) k)) q)).1), .int .i64 ((gx arcs (rdI (idxs (keys true arcs) (rdI (layr ds3 d ds3.length) k)) q)).2)], .bool true]) :: (.pointer (some ⟨g, 0, none⟩)) :: (.int .i64 (rdI (idxs (keys true arcs) (rdI (layr ds3 d ds3.length) k)) q)) :: (.tuple #[.agg #[.int .i64 ((gx arcs (rdI (idxs (keys true arcs) (rdI (layr ds3 d ds3.length) k)) q)).1), .int .i64 ((gx arcs (rdI (idxs (keys true arcs) (rdI (layr ds3 d ds3.length) k)) q)).2)], .bool true]) :: (.agg #[.int .i64 ((gx arcs (rdI (idxs (keys true arcs) (rdI (layr ds3 d ds3.length) k)) q)).1), .int .i64 ((gx arcs (rdI (idxs (keys true arcs) (rdI (layr ds3 d ds3.length) k)) q)).2)]) :: (.bool true) :: (.pointer (some ⟨t1, 0, none⟩)) :: (.pointer (some ⟨g35, 0, none⟩)) :: (.int .i64 ((gx arcs (rdI (idxs (keys true arcs) (rdI (layr ds3 d ds3.length) k)) q)).1)) :: (.int .i64 (rdI ds3 ((gx arcs (rdI (idxs (keys true arcs) (rdI (layr ds3 d ds3.length) k)) q)).1))) :: (.int .i64 d) :: (.int .i64 (d - 1)) :: (.bool true) :: (.slice (some ⟨g9, 0, none⟩) N N) :: (.int .i64 (rdI (layr ds3 d ds3.length) k)) :: (.slice (some ⟨g9, 0, none⟩) N N) :: (.int .i64 (rdI (layr ds3 d ds3.length) k)) :: (.pointer (some ⟨g9, (rdI (layr ds3 d ds3.length) k).toNat, none⟩)) :: (.int .i64 (rdI us2 (rdI (layr ds3 d ds3.length) k))) :: (.slice (some ⟨g9, 0, none⟩) N N) :: (.pointer (some ⟨g35, 0, none⟩)) :: (.int .i64 ((gx arcs (rdI (idxs (keys true arcs) (rdI (layr ds3 d ds3.length) k)) q)).1)) :: (.pointer (some ⟨g9, ((gx arcs (rdI (idxs (keys true arcs) (rdI (layr ds3 d ds3.length) k)) q)).1).toNat, none⟩)) :: (.int .i64 (rdI us2 ((gx arcs (rdI (idxs (keys true arcs) (rdI (layr ds3 d ds3.length) k)) q)).1))) :: (.int .i64 ((rdI us2 (rdI (layr ds3 d ds3.length) k)) + (rdI us2 ((gx arcs (rdI (idxs (keys true arcs) (rdI (layr ds3 d ds3.length) k)) q)).1)))) :: (.int .i64 (min ((rdI us2 (rdI (layr ds3 d ds3.length) k)) + (rdI us2 ((gx arcs (rdI (idxs (keys true arcs) (rdI (layr ds3 d ds3.length) k)) q)).1))) (1048576 : Int))) :: (.pointer (some ⟨g9, (rdI (layr ds3 d ds3.length) k).toNat, none⟩)) :: (.int .i64 (q + 1)) :: ((J21 80)) :: undef :: undef :: undef :: undef :: []) k_ undef), q + 1, xs42, congrArg Fr (by kernel_rfl), rfl, by omega, by omega, hst, HS⟩
        · skip
          refine ql (.bool false) (by kernel_rfl) (R_beq (b := (rdI ds3 ((gx arcs (rdI (idxs (keys true arcs) (rdI (layr ds3 d ds3.length) k)) q)).1) == d - 1)) (by kernel_rfl) (beq_f (hc39))) ?_
          refine wpList_nil ?_
          refine x_then ?_
          refine wp_cond_false (by kernel_rfl) ?_
          refine wp_skip ?_
          refine x_inb ?_
          refine x_then ?_
          refine wp_region_lit ?_
          refine ql (.int .i64 (q + 1)) (by kernel_rfl) (R_int (by kernel_rfl) (w64 (by omega))) ?_
          refine ql (.int .i64 (q + 1)) (by kernel_rfl) (by kernel_rfl) ?_
          refine wpList_nil ?_
          replace HS := HS.drop1
          have hst := cw_ne hQ q0 (by omega) hc39
          refine x_then ?_
          exact ⟨(idxs (keys true arcs) (rdI (layr ds3 d ds3.length) k)).length - (q + 1).toNat, by omega, (fun k_ : Nat => List.getD ((.pointer (some ⟨g, 0, none⟩)) :: (.int .i64 v) :: (.int .i64 t0) :: undef :: undef :: undef :: (.int .i64 0) :: (.pointer (some ⟨t1, 0, none⟩)) :: (.slice (some ⟨g9, 0, none⟩) N N) :: (.int .i64 d) :: undef :: (.int .i64 (rdI (layr ds3 d ds3.length) k)) :: undef :: (.int .i64 (rdI (idxs (keys true arcs) (rdI (layr ds3 d ds3.length) k)) q)) :: (.pointer (some ⟨g35, 0, none⟩)) :: (.bool true) :: (.pointer (some ⟨g, 0, none⟩)) :: (.int .i64 v) :: (.pointer (some ⟨t1, 0, none⟩)) :: (.pointer (some ⟨t1, 0, none⟩)) :: (.int .i64 t0) :: (.int .i64 (rdI ds3 t0)) :: (.bool false) :: (.pointer (some ⟨g, 0, none⟩)) :: (.int .i64 (N : Int)) :: (.slice (some ⟨g9, 0, none⟩) N N) :: (.slice (some ⟨g9, 0, none⟩) N N) :: (.int .i64 v) :: (.pointer (some ⟨g9, v.toNat, none⟩)) :: (.int .i64 d) :: (.pointer (some ⟨t1, 0, none⟩)) :: (.int .i64 t0) :: (.int .i64 (rdI ds3 t0)) :: (.bool true) :: ((J13 34)) :: ((J13 35)) :: (.pointer (some ⟨t1, 0, none⟩)) :: (.int .i64 d) :: (.slice (some ⟨g25, 0, none⟩) ((layr ds3 d ds3.length).length) c19) :: (.int .i64 ((layr ds3 d ds3.length).length : Int)) :: (.int .i64 k) :: (.bool true) :: (.pointer (some ⟨g25, k.toNat, none⟩)) :: (.int .i64 (rdI (layr ds3 d ds3.length) k)) :: (.pointer (some ⟨g, 0, none⟩)) :: (.int .i64 (rdI (layr ds3 d ds3.length) k)) :: (.slice (some ⟨g33, 0, none⟩) ((idxs (keys true arcs) (rdI (layr ds3 d ds3.length) k)).length) c27) :: (.int .i64 ((idxs (keys true arcs) (rdI (layr ds3 d ds3.length) k)).length : Int)) :: (.int .i64 (q + 1)) :: (.bool true) :: (.pointer (some ⟨g33, q.toNat, none⟩)) :: (.int .i64 (rdI (idxs (keys true arcs) (rdI (layr ds3 d ds3.length) k)) q)) :: (.tuple #[.agg #[.int .i64 ((gx arcs (rdI (idxs (keys true arcs) (rdI (layr ds3 d ds3.length) k)) q)).1), .int .i64 ((gx arcs (rdI (idxs (keys true arcs) (rdI (layr ds3 d ds3.length) k)) q)).2)], .bool true]) :: (.pointer (some ⟨g, 0, none⟩)) :: (.int .i64 (rdI (idxs (keys true arcs) (rdI (layr ds3 d ds3.length) k)) q)) :: (.tuple #[.agg #[.int .i64 ((gx arcs (rdI (idxs (keys true arcs) (rdI (layr ds3 d ds3.length) k)) q)).1), .int .i64 ((gx arcs (rdI (idxs (keys true arcs) (rdI (layr ds3 d ds3.length) k)) q)).2)], .bool true]) :: (.agg #[.int .i64 ((gx arcs (rdI (idxs (keys true arcs) (rdI (layr ds3 d ds3.length) k)) q)).1), .int .i64 ((gx arcs (rdI (idxs (keys true arcs) (rdI (layr ds3 d ds3.length) k)) q)).2)]) :: (.bool true) :: (.pointer (some ⟨t1, 0, none⟩)) :: (.pointer (some ⟨g35, 0, none⟩)) :: (.int .i64 ((gx arcs (rdI (idxs (keys true arcs) (rdI (layr ds3 d ds3.length) k)) q)).1)) :: (.int .i64 (rdI ds3 ((gx arcs (rdI (idxs (keys true arcs) (rdI (layr ds3 d ds3.length) k)) q)).1))) :: (.int .i64 d) :: (.int .i64 (d - 1)) :: (.bool false) :: ((J29 65)) :: ((J29 66)) :: ((J29 67)) :: ((J29 68)) :: ((J29 69)) :: ((J29 70)) :: ((J29 71)) :: ((J29 72)) :: ((J29 73)) :: ((J29 74)) :: ((J29 75)) :: ((J29 76)) :: ((J29 77)) :: ((J29 78)) :: (.int .i64 (q + 1)) :: ((J21 80)) :: undef :: undef :: undef :: undef :: []) k_ undef), q + 1, us2, congrArg Fr (by kernel_rfl), rfl, by omega, by omega, hst, HS⟩
      · skip
        refine ql (.bool false) (by kernel_rfl) (R_nbool (p := q < ((idxs (keys true arcs) (rdI (layr ds3 d ds3.length) k)).length : Int)) (by kernel_rfl) (hc32)) ?_
        refine wpList_nil ?_
        refine x_then ?_
        refine wp_seq ?_
        refine wp_cond_false (by kernel_rfl) ?_
        refine wp_exit ?_
        refine x_thenE ?_
        refine x_thenE ?_
        refine x_hit ?_
        refine x_inb ?_
        refine x_then ?_
        refine wp_region_lit ?_
        refine ql (.int .i64 (k + 1)) (by kernel_rfl) (R_int (by kernel_rfl) (w64 (by omega))) ?_
        refine ql (.int .i64 (k + 1)) (by kernel_rfl) (by kernel_rfl) ?_
        refine wpList_nil ?_
        replace HS := HS.drop1
        refine x_then ?_
        exact ⟨(layr ds3 d ds3.length).length - (k + 1).toNat, by omega, (fun k_ : Nat => List.getD ((.pointer (some ⟨g, 0, none⟩)) :: (.int .i64 v) :: (.int .i64 t0) :: undef :: undef :: undef :: (.int .i64 0) :: (.pointer (some ⟨t1, 0, none⟩)) :: (.slice (some ⟨g9, 0, none⟩) N N) :: (.int .i64 d) :: undef :: (.int .i64 (rdI (layr ds3 d ds3.length) k)) :: undef :: ((J29 13)) :: ((J29 14)) :: ((J29 15)) :: (.pointer (some ⟨g, 0, none⟩)) :: (.int .i64 v) :: (.pointer (some ⟨t1, 0, none⟩)) :: (.pointer (some ⟨t1, 0, none⟩)) :: (.int .i64 t0) :: (.int .i64 (rdI ds3 t0)) :: (.bool false) :: (.pointer (some ⟨g, 0, none⟩)) :: (.int .i64 (N : Int)) :: (.slice (some ⟨g9, 0, none⟩) N N) :: (.slice (some ⟨g9, 0, none⟩) N N) :: (.int .i64 v) :: (.pointer (some ⟨g9, v.toNat, none⟩)) :: (.int .i64 d) :: (.pointer (some ⟨t1, 0, none⟩)) :: (.int .i64 t0) :: (.int .i64 (rdI ds3 t0)) :: (.bool true) :: ((J13 34)) :: ((J13 35)) :: (.pointer (some ⟨t1, 0, none⟩)) :: (.int .i64 d) :: (.slice (some ⟨g25, 0, none⟩) ((layr ds3 d ds3.length).length) c19) :: (.int .i64 ((layr ds3 d ds3.length).length : Int)) :: (.int .i64 (k + 1)) :: (.bool true) :: (.pointer (some ⟨g25, k.toNat, none⟩)) :: (.int .i64 (rdI (layr ds3 d ds3.length) k)) :: (.pointer (some ⟨g, 0, none⟩)) :: (.int .i64 (rdI (layr ds3 d ds3.length) k)) :: (.slice A26 ((idxs (keys true arcs) (rdI (layr ds3 d ds3.length) k)).length) c27) :: (.int .i64 ((idxs (keys true arcs) (rdI (layr ds3 d ds3.length) k)).length : Int)) :: (.int .i64 q) :: (.bool false) :: ((J29 50)) :: ((J29 51)) :: ((J29 52)) :: ((J29 53)) :: ((J29 54)) :: ((J29 55)) :: ((J29 56)) :: ((J29 57)) :: ((J29 58)) :: ((J29 59)) :: ((J29 60)) :: ((J29 61)) :: ((J29 62)) :: ((J29 63)) :: ((J29 64)) :: ((J29 65)) :: ((J29 66)) :: ((J29 67)) :: ((J29 68)) :: ((J29 69)) :: ((J29 70)) :: ((J29 71)) :: ((J29 72)) :: ((J29 73)) :: ((J29 74)) :: ((J29 75)) :: ((J29 76)) :: ((J29 77)) :: ((J29 78)) :: ((J29 79)) :: (.int .i64 (k + 1)) :: undef :: undef :: undef :: undef :: []) k_ undef), k + 1, us2, congrArg Fr (by kernel_rfl), rfl, by omega, by omega, cw_qend hQ k0 (by omega) d1 (by omega), HS⟩
    · skip
      refine ql (.bool false) (by kernel_rfl) (R_nbool (p := k < ((layr ds3 d ds3.length).length : Int)) (by kernel_rfl) (hc24)) ?_
      refine wpList_nil ?_
      refine x_then ?_
      refine wp_seq ?_
      refine wp_cond_false (by kernel_rfl) ?_
      refine wp_exit ?_
      refine x_thenE ?_
      refine x_thenE ?_
      refine x_hit ?_
      refine x_inb ?_
      refine x_then ?_
      refine wp_region_lit ?_
      refine ql (.int .i64 d) (by kernel_rfl) (by kernel_rfl) ?_
      refine ql (.int .i64 (d + 1)) (by kernel_rfl) (R_int (by kernel_rfl) (w64 (by omega))) ?_
      refine ql (.int .i64 (d + 1)) (by kernel_rfl) (by kernel_rfl) ?_
      refine wpList_nil ?_
      replace HS := HS.drop1
      refine x_then ?_
      exact ⟨(rdI ds3 t0 + 1 - (d + 1)).toNat, by omega, (fun k_ : Nat => List.getD ((.pointer (some ⟨g, 0, none⟩)) :: (.int .i64 v) :: (.int .i64 t0) :: undef :: undef :: undef :: (.int .i64 0) :: (.pointer (some ⟨t1, 0, none⟩)) :: (.slice (some ⟨g9, 0, none⟩) N N) :: (.int .i64 (d + 1)) :: undef :: ((J21 11)) :: undef :: ((J21 13)) :: ((J21 14)) :: ((J21 15)) :: (.pointer (some ⟨g, 0, none⟩)) :: (.int .i64 v) :: (.pointer (some ⟨t1, 0, none⟩)) :: (.pointer (some ⟨t1, 0, none⟩)) :: (.int .i64 t0) :: (.int .i64 (rdI ds3 t0)) :: (.bool false) :: (.pointer (some ⟨g, 0, none⟩)) :: (.int .i64 (N : Int)) :: (.slice (some ⟨g9, 0, none⟩) N N) :: (.slice (some ⟨g9, 0, none⟩) N N) :: (.int .i64 v) :: (.pointer (some ⟨g9, v.toNat, none⟩)) :: (.int .i64 d) :: (.pointer (some ⟨t1, 0, none⟩)) :: (.int .i64 t0) :: (.int .i64 (rdI ds3 t0)) :: (.bool true) :: (.int .i64 d) :: (.int .i64 (d + 1)) :: (.pointer (some ⟨t1, 0, none⟩)) :: (.int .i64 d) :: (.slice A18 ((layr ds3 d ds3.length).length) c19) :: (.int .i64 ((layr ds3 d ds3.length).length : Int)) :: (.int .i64 k) :: (.bool false) :: ((J21 42)) :: ((J21 43)) :: ((J21 44)) :: ((J21 45)) :: ((J21 46)) :: ((J21 47)) :: ((J21 48)) :: ((J21 49)) :: ((J21 50)) :: ((J21 51)) :: ((J21 52)) :: ((J21 53)) :: ((J21 54)) :: ((J21 55)) :: ((J21 56)) :: ((J21 57)) :: ((J21 58)) :: ((J21 59)) :: ((J21 60)) :: ((J21 61)) :: ((J21 62)) :: ((J21 63)) :: ((J21 64)) :: ((J21 65)) :: ((J21 66)) :: ((J21 67)) :: ((J21 68)) :: ((J21 69)) :: ((J21 70)) :: ((J21 71)) :: ((J21 72)) :: ((J21 73)) :: ((J21 74)) :: ((J21 75)) :: ((J21 76)) :: ((J21 77)) :: ((J21 78)) :: ((J21 79)) :: ((J21 80)) :: undef :: undef :: undef :: undef :: []) k_ undef), d + 1, us1, congrArg Fr (by kernel_rfl), rfl, by omega, by omega, cw_lend hL1 hLP d1 (by omega), HS⟩
  · skip
    refine ql (.bool false) (by kernel_rfl) (R_nbool (p := d ≤ (rdI ds3 t0)) (by kernel_rfl) (hc17)) ?_
    refine wpList_nil ?_
    refine x_then ?_
    refine wp_cond_false (by kernel_rfl) ?_
    refine wp_exit ?_
    refine x_thenE ?_
    refine x_thenE ?_
    refine x_hit ?_
    refine x_then ?_
    refine wp_seq ?_
    refine wp_region_lit ?_
    refine ql (.slice (some ⟨g9, 0, none⟩) N N) (by kernel_rfl) (by kernel_rfl) ?_
    refine ql (.int .i64 t0) (by kernel_rfl) (by kernel_rfl) ?_
    refine ql (.pointer (some ⟨g9, t0.toNat, none⟩)) (by kernel_rfl) (R_index1 (k := .i64) (g := g9) (n := N) (c := N) (i := t0) (by kernel_rfl) (by kernel_rfl) Try.underlying28 (by kernel_rfl) (by omega) (by omega)) ?_
    refine ql (.int .i64 (rdI us t0)) (by kernel_rfl) (R_load (p := ⟨g9, t0.toNat, none⟩) (by kernel_rfl) (by kernel_rfl) (by kernel_rfl) (HS.rcell (i := 0) rfl (ci_rd (i := t0) (by omega) (by omega)))) ?_
    refine ql (.int .i64 (rdI us t0)) (by kernel_rfl) (by kernel_rfl) ?_
    refine wpList_nil ?_
    refine x_then ?_
    refine wp_ret ?_
    refine ret_ (.int .i64 (rdI us t0)) (by kernel_rfl) ?_
    have hq := cw_done hO ht.1 ht.2.1 ht.2.2 (by omega)
    replace HS : St W (owns []) W16 [row (some ⟨g9, 0, none⟩) N N (ci .i64 us) 3 1] := HB6.join (F := []) (G := [row (some ⟨g9, 0, none⟩) N N (ci .i64 us) 3 1]) HS
    exact ⟨by rw [hq], HS.tail (F := [row (some ⟨g9, 0, none⟩) N N (ci .i64 us) 3 1])⟩

set_option maxRecDepth 100000 in
set_option maxHeartbeats 1000000 in
theorem count_no (g N : Nat) (arcs : List (Int × Int)) (v t0 : Int) (ds : List Int) (W : World) (hG : GAt W g N arcs) (hN : N ≤ 1048576) (hm : arcs.length ≤ 67108864) (hD0 : DS N arcs v ds) (ht : ¬ (0 ≤ t0 ∧ t0 < N ∧ 0 ≤ rdI ds t0)) : Calls Try.prog 42 #[.pointer (some ⟨g, 0, none⟩), .int .i64 v, .int .i64 t0] W fun e W' => e = .returned (.int .i64 (0)) ∧ St W (owns []) W' [] := by
  have HS : St W (owns []) W [] := St.start W _
  have hF := hG.fine
  refine calls_enter ((.pointer (some ⟨g, 0, none⟩)) :: (.int .i64 v) :: (.int .i64 t0) :: undef :: undef :: undef :: undef :: undef :: undef :: undef :: undef :: undef :: undef :: undef :: undef :: undef :: undef :: undef :: undef :: undef :: undef :: undef :: undef :: undef :: undef :: undef :: undef :: undef :: undef :: undef :: undef :: undef :: undef :: undef :: undef :: undef :: undef :: undef :: undef :: undef :: undef :: undef :: undef :: undef :: undef :: undef :: undef :: undef :: undef :: undef :: undef :: undef :: undef :: undef :: undef :: undef :: undef :: undef :: undef :: undef :: undef :: undef :: undef :: undef :: undef :: undef :: undef :: undef :: undef :: undef :: undef :: undef :: undef :: undef :: undef :: undef :: undef :: undef :: undef :: undef :: undef :: undef :: undef :: undef :: undef :: []) Try.func42 rfl (by kernel_rfl) ?_
  refine wp_seq ?_
  refine wp_region_lit ?_
  refine ql (.int .i64 0) (by kernel_rfl) (by kernel_rfl) ?_
  refine wpList_nil ?_
  refine x_then ?_
  refine wp_seq ?_
  refine wp_region_lit ?_
  refine ql (.pointer (some ⟨g, 0, none⟩)) (by kernel_rfl) (by kernel_rfl) ?_
  refine ql (.int .i64 v) (by kernel_rfl) (by kernel_rfl) ?_
  refine qc (f := 30) (args := #[.pointer (some ⟨g, 0, none⟩), .int .i64 v, .pointer none]) (by kernel_rfl) (R_call #[.pointer (some ⟨g, 0, none⟩), .int .i64 v, .pointer none] Try.func30 (by kernel_rfl) (by kernel_rfl) (by kernel_rfl)) ?_
  refine (fromT g N arcs v _ (hG.below (HS.kept.below owns_nil)) hN hm).mono ?_
  rintro e W5 ⟨t1, ds3, bs4, rfl, H_, hTh2, hDh2, hKh2⟩
  refine ⟨_, rfl, ?_⟩
  replace HS : St W (owns []) W5 [] := HS.join (F := []) (G := []) H_
  clear H_
  have HB6 := HS
  replace hG := hG.below (HB6.kept.below owns_nil)
  clear HS
  have HS : St W5 (owns []) W5 [] := St.start _ _
  obtain rfl := ds_eq hF hDh2 hD0
  have hdl := hDh2.ld
  refine ql (.pointer (some ⟨t1, 0, none⟩)) (by kernel_rfl) (by kernel_rfl) ?_
  refine wpList_nil ?_
  refine x_then ?_
  refine wp_seq ?_
  refine wp_seq ?_
  refine wp_region_lit ?_
  refine ql (.pointer (some ⟨t1, 0, none⟩)) (by kernel_rfl) (by kernel_rfl) ?_
  refine ql (.int .i64 t0) (by kernel_rfl) (by kernel_rfl) ?_
  refine qc (f := 31) (args := #[.pointer (some ⟨t1, 0, none⟩), .int .i64 t0]) (by kernel_rfl) (R_call #[.pointer (some ⟨t1, 0, none⟩), .int .i64 t0] Try.func31 (by kernel_rfl) (by kernel_rfl) (by kernel_rfl)) ?_
  by_cases hv7 : 0 ≤ t0 ∧ t0 < (N : Int)
  · skip
    refine (tdist_y t1 ds3 bs4 _ (hTh2.below (HS.kept.below owns_nil)) t0 (by omega) (by have h_ := hDh2.ld; omega)).mono ?_
    rintro e W8 ⟨rfl, H_⟩
    refine ⟨_, rfl, ?_⟩
    replace HS : St W5 (owns []) W8 [] := HS.join (F := []) (G := []) H_
    clear H_
    refine ql (.bool true) (by kernel_rfl) (R_bool (p := (rdI ds3 t0) < (0 : Int)) (by kernel_rfl) (by omega)) ?_
    refine wpList_nil ?_
    refine x_then ?_
    refine wp_cond_true (by kernel_rfl) ?_
    refine wp_seq ?_
    refine wp_region_lit ?_
    refine ql (.int .i64 0) (by kernel_rfl) (by kernel_rfl) ?_
    refine wpList_nil ?_
    refine x_then ?_
    refine wp_ret ?_
    refine x_thenR ?_
    refine ret_ (.int .i64 0) (by kernel_rfl) ?_
    replace HS : St W (owns []) W8 [] := HB6.join (F := []) (G := []) HS
    exact ⟨rfl, HS⟩
  · skip
    refine (tdist_n t1 ds3 bs4 _ (hTh2.below (HS.kept.below owns_nil)) t0 (by have h_ := hDh2.ld; omega)).mono ?_
    rintro e W9 ⟨rfl, H_⟩
    refine ⟨_, rfl, ?_⟩
    replace HS : St W5 (owns []) W9 [] := HS.join (F := []) (G := []) H_
    clear H_
    refine ql (.bool true) (by kernel_rfl) (R_beq (b := decide ((-1 : Int) < 0)) (by kernel_rfl) (by decide)) ?_
    refine wpList_nil ?_
    refine x_then ?_
    refine wp_cond_true (by kernel_rfl) ?_
    refine wp_seq ?_
    refine wp_region_lit ?_
    refine ql (.int .i64 0) (by kernel_rfl) (by kernel_rfl) ?_
    refine wpList_nil ?_
    refine x_then ?_
    refine wp_ret ?_
    refine x_thenR ?_
    refine ret_ (.int .i64 0) (by kernel_rfl) ?_
    replace HS : St W (owns []) W9 [] := HB6.join (F := []) (G := []) HS
    exact ⟨rfl, HS⟩


theorem cless_t (A B : Option Addr) (c d : Nat) (xs ys : List Int) (W : World) (hr : Rd W A (ci .i64 xs)) (hs : Rd W B (ci .i64 ys)) (hl : xs.length ≤ 1099511627776) (hl2 : ys.length ≤ 1099511627776) (b : Bool) (h : decide (lx xs.reverse ys.reverse < 0) = b) : Calls Try.prog 45 #[.slice A xs.length c, .slice B ys.length d] W fun e W' => e = .returned (.bool b) ∧ St W (owns []) W' [] := by
  subst h; exact cless A B c d xs ys W hr hs hl hl2
theorem rless_t (A B : Option Addr) (c d : Nat) (xs ys : List Int) (W : World) (hr : Rd W A (ci .i64 xs)) (hs : Rd W B (ci .i64 ys)) (hl : xs.length ≤ 1099511627776) (hl2 : ys.length ≤ 1099511627776) (b : Bool) (h : decide (lx xs.reverse ys.reverse < 0) = b) : Calls Try.prog 46 #[.slice A xs.length c, .slice B ys.length d] W fun e W' => e = .returned (.bool b) ∧ St W (owns []) W' [] := by
  subst h; exact rless A B c d xs ys W hr hs hl hl2
theorem rwalk (N : Nat) (A : Option Addr) (c : Nat) (arcs : List (Int × Int)) (W : World) (hr : Rd W A (cf arcC arcs)) (hl : arcs.length ≤ 1048576) (hF : Fine N arcs) (L : Option Addr) (cl : Nat) (xs : List Int) (v : Int) (hrl : Rd W L (ci .i64 xs)) (hxl : xs.length ≤ 1099511627776) (u : Int) (b : Bool) (h : tup (wkN N arcs v xs) = .tuple #[.int .i64 u, .bool b]) : Calls Try.prog 48 #[.int .i64 (N : Int), .slice A arcs.length c, .int .i64 v, .slice L xs.length cl] W fun e W' => e = .returned (.tuple #[.int .i64 u, .bool b]) ∧ St W (owns []) W' [] := by
  rw [← h]
  by_cases hv : 0 ≤ v ∧ v < N
  · exact rwalk_yes N A c arcs W hr hl hF L cl xs v hrl hxl hv
  · exact rwalk_no N A c arcs W hr hl hF L cl xs v hrl hxl hv
theorem v_in {N : Nat} {arcs : List (Int × Int)} {v t : Int} {ds : List Int} (hF : Fine N arcs) (hD : DS N arcs v ds) (h0 : 0 ≤ t) (h1 : t < N) (hp : 0 ≤ rdI ds t) : 0 ≤ v ∧ v < N := by
  by_cases h : 0 ≤ v ∧ v < N
  · exact h
  · have := ds_eq hF hD (ds_none hF h)
    rw [this, rdI_rep h0 h1] at hp
    omega
theorem awk14_chk : chk ((4 : Nat) : Int) [(0, 1), (0, 2), (2, 3), (1, 3)] = 0 := by unfold chk fineB; decide
theorem awk14_ds : DS 4 [(0, 1), (0, 2), (2, 3), (1, 3)] 0 [0, 1, 1, 2] := by
  refine ⟨rfl, fun w a b => ?_, fun w a b => ?_, fun w a b => ?_, fun i a b => ?_⟩
  · rcases (by omega : w = 0 ∨ w = 1 ∨ w = 2 ∨ w = 3) with rfl | rfl | rfl | rfl <;> (first | decide | (unfold rdI; decide) | (unfold rdI gx; decide) | (unfold gx; decide))
  · rcases (by omega : w = 0 ∨ w = 1 ∨ w = 2 ∨ w = 3) with rfl | rfl | rfl | rfl <;> (first | decide | (unfold rdI; decide) | (unfold rdI gx; decide) | (unfold gx; decide))
  · rcases (by omega : w = 0 ∨ w = 1 ∨ w = 2 ∨ w = 3) with rfl | rfl | rfl | rfl
    · intro h9; exact absurd h9 (by (first | decide | (unfold rdI; decide) | (unfold rdI gx; decide) | (unfold gx; decide)))
    · exact fun _ => ⟨0, by (first | decide | (unfold rdI; decide) | (unfold rdI gx; decide) | (unfold gx; decide))⟩
    · exact fun _ => ⟨1, by (first | decide | (unfold rdI; decide) | (unfold rdI gx; decide) | (unfold gx; decide))⟩
    · exact fun _ => ⟨2, by (first | decide | (unfold rdI; decide) | (unfold rdI gx; decide) | (unfold gx; decide))⟩
  · simp only [List.length_cons, List.length_nil] at b
    rcases (by omega : i = 0 ∨ i = 1 ∨ i = 2 ∨ i = 3) with rfl | rfl | rfl | rfl <;> (first | decide | (unfold rdI; decide) | (unfold rdI gx; decide) | (unfold gx; decide))
theorem awk14_bk : BK 4 [(0, 1), (0, 2), (2, 3), (1, 3)] [0, 1, 1, 2] [-1, 0, 1, 2] := by
  refine ⟨rfl, fun w a b => ?_, fun w a b => ?_, fun i a b => ?_⟩
  · rcases (by omega : w = 0 ∨ w = 1 ∨ w = 2 ∨ w = 3) with rfl | rfl | rfl | rfl <;> (first | decide | (unfold rdI; decide) | (unfold rdI gx; decide) | (unfold gx; decide))
  · rcases (by omega : w = 0 ∨ w = 1 ∨ w = 2 ∨ w = 3) with rfl | rfl | rfl | rfl <;> (first | decide | (unfold rdI; decide) | (unfold rdI gx; decide) | (unfold gx; decide))
  · simp only [List.length_cons, List.length_nil] at b
    rcases (by omega : i = 0 ∨ i = 1 ∨ i = 2 ∨ i = 3) with rfl | rfl | rfl | rfl <;> (first | decide | (unfold rdI; decide) | (unfold rdI gx; decide) | (unfold gx; decide))
theorem awk14_sh : (rl [(0, 1), (0, 2), (2, 3), (1, 3)] [-1, 0, 1, 2] (rdI [0, 1, 1, 2] 3).toNat 3).reverse = [1, 2] := by rw [show (rdI [0, 1, 1, 2] 3).toNat = 2 by unfold rdI; decide, rl, rl, rl]; unfold rdI gx; decide
theorem awk14_ct : nwc [(0, 1), (0, 2), (2, 3), (1, 3)] [0, 1, 1, 2] (rdI [0, 1, 1, 2] 3).toNat 3 = 2 := by
  have e : (rdI [0, 1, 1, 2] 3).toNat = 2 := by unfold rdI; decide
  have i3 : idxs (keys true [(0, 1), (0, 2), (2, 3), (1, 3)]) 3 = [2, 3] := by unfold idxs keys key; decide
  have i2 : idxs (keys true [(0, 1), (0, 2), (2, 3), (1, 3)]) 2 = [1] := by unfold idxs keys key; decide
  have i1 : idxs (keys true [(0, 1), (0, 2), (2, 3), (1, 3)]) 1 = [0] := by unfold idxs keys key; decide
  have g2 : gx ([(0, 1), (0, 2), (2, 3), (1, 3)] : List (Int × Int)) 2 = (2, 3) := by unfold gx; rfl
  have g3 : gx ([(0, 1), (0, 2), (2, 3), (1, 3)] : List (Int × Int)) 3 = (1, 3) := by unfold gx; rfl
  have g1 : gx ([(0, 1), (0, 2), (2, 3), (1, 3)] : List (Int × Int)) 1 = (0, 2) := by unfold gx; rfl
  have g0 : gx ([(0, 1), (0, 2), (2, 3), (1, 3)] : List (Int × Int)) 0 = (0, 1) := by unfold gx; rfl
  have n2 : nwc [(0, 1), (0, 2), (2, 3), (1, 3)] [0, 1, 1, 2] 1 2 = 1 := by
    rw [nwc, i2]; simp only [List.foldl_cons, List.foldl_nil]; unfold nst; rw [g1, nwc]; unfold rdI; decide
  have n1 : nwc [(0, 1), (0, 2), (2, 3), (1, 3)] [0, 1, 1, 2] 1 1 = 1 := by
    rw [nwc, i1]; simp only [List.foldl_cons, List.foldl_nil]; unfold nst; rw [g0, nwc]; unfold rdI; decide
  rw [e, nwc, i3]; simp only [List.foldl_cons, List.foldl_nil]; unfold nst; rw [g2, g3, n2, n1]; unfold rdI; decide
theorem awk14_ls : decide (lx ([1, 2] : List Int).reverse [0, 3].reverse < 0) = true := by decide

set_option maxRecDepth 100000 in
set_option maxHeartbeats 1000000 in
theorem awake14 (W : World) : Calls Try.prog 40 #[] W fun e W' => e = .returned (.bool true) ∧ St W (owns []) W' [] := by
  have HS : St W (owns []) W [] := St.start W _
  refine calls_enter [undef, undef, undef, undef, undef, undef, undef, undef, undef, undef, undef, undef, undef, undef, undef, undef, undef, undef, undef, undef, undef, undef, undef, undef, undef, undef, undef, undef, undef, undef, undef, undef, undef, undef, undef, undef, undef, undef, undef] Try.func40 rfl (by kernel_rfl) ?_
  refine wp_seq ?_
  refine wp_region_lit ?_
  refine ql (.bool false) (by kernel_rfl) (by kernel_rfl) ?_
  refine wpList_nil ?_
  refine x_then ?_
  refine wp_seq ?_
  refine wp_region_lit ?_
  refine ql (.agg #[.int .i64 0, .int .i64 1]) (by kernel_rfl) (by kernel_rfl) ?_
  refine ql (.agg #[.int .i64 0, .int .i64 2]) (by kernel_rfl) (by kernel_rfl) ?_
  refine ql (.agg #[.int .i64 2, .int .i64 3]) (by kernel_rfl) (by kernel_rfl) ?_
  refine ql (.agg #[.int .i64 1, .int .i64 3]) (by kernel_rfl) (by kernel_rfl) ?_
  refine kl HS 4 [.int .i64 0, .int .i64 1, .int .i64 0, .int .i64 2, .int .i64 2, .int .i64 3, .int .i64 1, .int .i64 3] 38 2 (by kernel_rfl) (by kernel_rfl) rfl (by decide) ?_
  intro g1 W2 H_
  replace HS : St W (owns []) W2 [row (some ⟨g1, 0, none⟩) 4 4 (cf arcC ([(0, 1), (0, 2), (2, 3), (1, 3)])) 38 2] := H_.cast_ (by kernel_rfl)
  clear H_
  refine qc (f := 13) (args := #[.int .i64 4, .slice (some ⟨g1, 0, none⟩) 4 4]) (by kernel_rfl) (R_call #[.int .i64 4, .slice (some ⟨g1, 0, none⟩) 4 4] Try.func13 (by kernel_rfl) (by kernel_rfl) (by kernel_rfl)) ?_
  refine (of_yes 4 _ _ ([(0, 1), (0, 2), (2, 3), (1, 3)] : List (Int × Int)) _ (Rd.row HS (i := 0) rfl) (by decide) awk14_chk).mono ?_
  rintro e W3 ⟨g, rfl, H_, hG⟩
  refine ⟨_, rfl, ?_⟩
  replace HS : St W (owns []) W3 [row (some ⟨g1, 0, none⟩) 4 4 (cf arcC ([(0, 1), (0, 2), (2, 3), (1, 3)])) 38 2] := HS.join (F := []) (G := []) H_
  clear H_
  have HB4 := HS
  have hr5 := Rd.row HB4 (i := 0) rfl
  clear HS
  have HS : St W3 (owns []) W3 [] := St.start _ _
  refine ql (.tuple #[.pointer (some ⟨g, 0, none⟩), .int .i64 0]) (by kernel_rfl) (by kernel_rfl) ?_
  refine ql (.pointer (some ⟨g, 0, none⟩)) (by kernel_rfl) (by kernel_rfl) ?_
  refine ql (.int .i64 0) (by kernel_rfl) (by kernel_rfl) ?_
  refine ql (.pointer (some ⟨g, 0, none⟩)) (by kernel_rfl) (by kernel_rfl) ?_
  refine ql (.int .i64 0) (by kernel_rfl) (by kernel_rfl) ?_
  refine wpList_nil ?_
  refine x_then ?_
  refine wp_seq ?_
  refine wp_region_lit ?_
  refine ql (.pointer (some ⟨g, 0, none⟩)) (by kernel_rfl) (by kernel_rfl) ?_
  refine qc (f := 41) (args := #[.pointer (some ⟨g, 0, none⟩), .int .i64 0, .int .i64 3, .pointer none]) (by kernel_rfl) (R_call #[.pointer (some ⟨g, 0, none⟩), .int .i64 0, .int .i64 3, .pointer none] Try.func41 (by kernel_rfl) (by kernel_rfl) (by kernel_rfl)) ?_
  refine (short_yes g 4 [(0, 1), (0, 2), (2, 3), (1, 3)] 0 3 [0, 1, 1, 2] [-1, 0, 1, 2] _ (hG.below (HS.kept.below owns_nil)) (by decide) (by decide) awk14_ds awk14_bk (by unfold rdI; decide)).mono ?_
  rintro e W6 ⟨A1, c1, he_, H_⟩
  rw [awk14_sh] at he_ H_
  subst he_
  refine ⟨_, rfl, ?_⟩
  replace HS : St W3 (owns []) W6 [row A1 (([1, 2] : List Int).length) c1 (ci .i64 ([1, 2])) 3 1] := HS.join (F := []) (G := [row A1 (([1, 2] : List Int).length) c1 (ci .i64 ([1, 2])) 3 1]) H_
  clear H_
  refine ql (.tuple #[.slice A1 (([1, 2] : List Int).length) c1, .bool true]) (by kernel_rfl) (by kernel_rfl) ?_
  refine ql (.slice A1 (([1, 2] : List Int).length) c1) (by kernel_rfl) (by kernel_rfl) ?_
  refine ql (.bool true) (by kernel_rfl) (by kernel_rfl) ?_
  refine ql (.slice A1 (([1, 2] : List Int).length) c1) (by kernel_rfl) (by kernel_rfl) ?_
  refine ql (.bool true) (by kernel_rfl) (by kernel_rfl) ?_
  refine wpList_nil ?_
  refine x_then ?_
  refine wp_seq ?_
  refine wp_region_lit ?_
  refine ql (.int .i64 0) (by kernel_rfl) (by kernel_rfl) ?_
  refine ql (.bool true) (by kernel_rfl) (R_beq (b := ((0 : Int) == 0)) (by kernel_rfl) (by decide)) ?_
  refine ql (.bool true) (by kernel_rfl) (by kernel_rfl) ?_
  refine ql (.bool true) (by kernel_rfl) (by kernel_rfl) ?_
  refine ql (.bool true) (by kernel_rfl) (by kernel_rfl) ?_
  refine ql (.bool true) (by kernel_rfl) (by kernel_rfl) ?_
  refine ql (.slice A1 (([1, 2] : List Int).length) c1) (by kernel_rfl) (by kernel_rfl) ?_
  refine kl HS 2 [.int .i64 1, .int .i64 2] 3 1 (by kernel_rfl) (by kernel_rfl) rfl (by decide) ?_
  intro g7 W8 H_
  replace HS : St W3 (owns []) W8 [row (some ⟨g7, 0, none⟩) 2 2 (ci .i64 ([1, 2])) 3 1, row A1 (([1, 2] : List Int).length) c1 (ci .i64 ([1, 2])) 3 1] := H_.cast_ (by kernel_rfl)
  clear H_
  refine qc (f := 23) (args := #[.slice A1 (([1, 2] : List Int).length) c1, .slice (some ⟨g7, 0, none⟩) 2 2]) (by kernel_rfl) (R_call #[.slice A1 (([1, 2] : List Int).length) c1, .slice (some ⟨g7, 0, none⟩) 2 2] Try.func23 (by kernel_rfl) (by kernel_rfl) (by kernel_rfl)) ?_
  refine (same_eq _ _ _ _ ([1, 2] : List Int) [1, 2] _ rfl (Rd.row HS (i := 1) rfl) (Rd.row HS (i := 0) rfl) (by decide)).mono ?_
  rintro e W9 ⟨rfl, H_⟩
  refine ⟨_, rfl, ?_⟩
  replace HS : St W3 (owns []) W9 [row (some ⟨g7, 0, none⟩) 2 2 (ci .i64 ([1, 2])) 3 1, row A1 (([1, 2] : List Int).length) c1 (ci .i64 ([1, 2])) 3 1] := HS.join (F := []) (G := []) H_
  clear H_
  refine ql (.bool true) (by kernel_rfl) (by kernel_rfl) ?_
  refine ql (.bool true) (by kernel_rfl) (by kernel_rfl) ?_
  refine ql (.pointer (some ⟨g, 0, none⟩)) (by kernel_rfl) (by kernel_rfl) ?_
  refine qc (f := 42) (args := #[.pointer (some ⟨g, 0, none⟩), .int .i64 0, .int .i64 3]) (by kernel_rfl) (R_call #[.pointer (some ⟨g, 0, none⟩), .int .i64 0, .int .i64 3] Try.func42 (by kernel_rfl) (by kernel_rfl) (by kernel_rfl)) ?_
  refine (count_yes g 4 [(0, 1), (0, 2), (2, 3), (1, 3)] 0 3 [0, 1, 1, 2] _ (hG.below (HS.kept.below owns_nil)) (by decide) (by decide) awk14_ds (by decide) (by decide) (by unfold rdI; decide)).mono ?_
  rintro e W10 ⟨he_, H_⟩
  rw [awk14_ct] at he_
  subst he_
  refine ⟨_, rfl, ?_⟩
  replace HS : St W3 (owns []) W10 [row (some ⟨g7, 0, none⟩) 2 2 (ci .i64 ([1, 2])) 3 1, row A1 (([1, 2] : List Int).length) c1 (ci .i64 ([1, 2])) 3 1] := HS.join (F := []) (G := []) H_
  clear H_
  refine ql (.bool true) (by kernel_rfl) (R_beq (b := ((2 : Int) == 2)) (by kernel_rfl) (by decide)) ?_
  refine ql (.bool true) (by kernel_rfl) (by kernel_rfl) ?_
  refine ql (.bool true) (by kernel_rfl) (by kernel_rfl) ?_
  refine kl HS 2 [.int .i64 1, .int .i64 2] 3 1 (by kernel_rfl) (by kernel_rfl) rfl (by decide) ?_
  intro g11 W12 H_
  replace HS : St W3 (owns []) W12 [row (some ⟨g11, 0, none⟩) 2 2 (ci .i64 ([1, 2])) 3 1, row (some ⟨g7, 0, none⟩) 2 2 (ci .i64 ([1, 2])) 3 1, row A1 (([1, 2] : List Int).length) c1 (ci .i64 ([1, 2])) 3 1] := H_.cast_ (by kernel_rfl)
  clear H_
  refine kl HS 2 [.int .i64 0, .int .i64 3] 3 1 (by kernel_rfl) (by kernel_rfl) rfl (by decide) ?_
  intro g13 W14 H_
  replace HS : St W3 (owns []) W14 [row (some ⟨g13, 0, none⟩) 2 2 (ci .i64 ([0, 3])) 3 1, row (some ⟨g11, 0, none⟩) 2 2 (ci .i64 ([1, 2])) 3 1, row (some ⟨g7, 0, none⟩) 2 2 (ci .i64 ([1, 2])) 3 1, row A1 (([1, 2] : List Int).length) c1 (ci .i64 ([1, 2])) 3 1] := H_.cast_ (by kernel_rfl)
  clear H_
  refine qc (f := 45) (args := #[.slice (some ⟨g11, 0, none⟩) 2 2, .slice (some ⟨g13, 0, none⟩) 2 2]) (by kernel_rfl) (R_call #[.slice (some ⟨g11, 0, none⟩) 2 2, .slice (some ⟨g13, 0, none⟩) 2 2] Try.func45 (by kernel_rfl) (by kernel_rfl) (by kernel_rfl)) ?_
  refine (cless_t _ _ _ _ ([1, 2] : List Int) [0, 3] _ (Rd.row HS (i := 1) rfl) (Rd.row HS (i := 0) rfl) (by decide) (by decide) true awk14_ls).mono ?_
  rintro e W15 ⟨rfl, H_⟩
  refine ⟨_, rfl, ?_⟩
  replace HS : St W3 (owns []) W15 [row (some ⟨g13, 0, none⟩) 2 2 (ci .i64 ([0, 3])) 3 1, row (some ⟨g11, 0, none⟩) 2 2 (ci .i64 ([1, 2])) 3 1, row (some ⟨g7, 0, none⟩) 2 2 (ci .i64 ([1, 2])) 3 1, row A1 (([1, 2] : List Int).length) c1 (ci .i64 ([1, 2])) 3 1] := HS.join (F := []) (G := []) H_
  clear H_
  refine ql (.bool true) (by kernel_rfl) (by kernel_rfl) ?_
  refine ql (.bool true) (by kernel_rfl) (by kernel_rfl) ?_
  refine wpList_nil ?_
  refine x_then ?_
  refine wp_ret ?_
  refine ret_ (.bool true) (by kernel_rfl) ?_
  replace HS : St W (owns []) W15 [row (some ⟨g13, 0, none⟩) 2 2 (ci .i64 ([0, 3])) 3 1, row (some ⟨g11, 0, none⟩) 2 2 (ci .i64 ([1, 2])) 3 1, row (some ⟨g7, 0, none⟩) 2 2 (ci .i64 ([1, 2])) 3 1, row A1 (([1, 2] : List Int).length) c1 (ci .i64 ([1, 2])) 3 1, row (some ⟨g1, 0, none⟩) 4 4 (cf arcC ([(0, 1), (0, 2), (2, 3), (1, 3)])) 38 2] := HB4.join (F := []) (G := [row (some ⟨g13, 0, none⟩) 2 2 (ci .i64 ([0, 3])) 3 1, row (some ⟨g11, 0, none⟩) 2 2 (ci .i64 ([1, 2])) 3 1, row (some ⟨g7, 0, none⟩) 2 2 (ci .i64 ([1, 2])) 3 1, row A1 (([1, 2] : List Int).length) c1 (ci .i64 ([1, 2])) 3 1]) HS
  exact ⟨rfl, HS.tail (F := [row (some ⟨g13, 0, none⟩) 2 2 (ci .i64 ([0, 3])) 3 1, row (some ⟨g11, 0, none⟩) 2 2 (ci .i64 ([1, 2])) 3 1, row (some ⟨g7, 0, none⟩) 2 2 (ci .i64 ([1, 2])) 3 1, row A1 (([1, 2] : List Int).length) c1 (ci .i64 ([1, 2])) 3 1, row (some ⟨g1, 0, none⟩) 4 4 (cf arcC ([(0, 1), (0, 2), (2, 3), (1, 3)])) 38 2])⟩


end Go.Proofs.Ythfpdpjccnnlhaa.GPathShort
