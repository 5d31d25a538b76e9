/- Written for this claim by gp.py, a program of this session's, over the kit's print. Lean checks it. -/
import Derived.Test.YtnabbhcagonlkaaGStackTurnsx0
import Derived.Test.YtnabbhcagonlkaaGStackTurnshhp1
import Derived.Test.YtnabbhcagonlkaaGStackTurnshhp2
import Derived.Test.YtnabbhcagonlkaaGStackTurnshhp4
import Derived.Test.YtnabbhcagonlkaaGStackTurnshw1a
import Derived.WalkKit
import Derived.StillTailTactics
import Derived.Deep.LoopGhost
import Derived.KernelRfl
import Derived.Deep.OwnRows
import Derived.Laws.OwnMore
import Derived.Laws.MakeOwn
import Derived.Maps.AppendAt
import Derived.OrdersHeld
namespace Go.Proofs.Ytnabbhcagonlkaa.GStackTurns
open Go.RowKit Go.Proofs.YtnabbhcagonlkaaW.PrintWords Go.Proofs.YtnabbhcagonlkaaW.PrintLast Go.Proofs.YtnabbhcagonlkaaW.PrintMore
attribute [local go_sem] max2_int min2_int max_two min_two max_three min_three max_four min_four   -- for this text's walks alone
set_option linter.unusedVariables false
set_option linter.unusedSimpArgs false

--import Derived.WalkKit
--import Derived.StillTailTactics
--import Derived.Deep.LoopGhost
--import Derived.KernelRfl
--import Derived.Deep.OwnRows
--import Derived.Laws.OwnMore
--import Derived.Laws.MakeOwn
--import Derived.Maps.AppendAt
--import Derived.OrdersHeld
attribute [local irreducible] wpStill wpList Code.wp TA

set_option maxRecDepth 100000 in
set_option maxHeartbeats 1000000 in
theorem wpush_nil (g tb : Nat) (A : Option Addr) (c f n : Nat) (bs xs : List Int) (v : Int) (W : World) (M : Nat → Prop) (HS : St W M W [blk g [.slice A bs.length c, .int .i64 (f : Int), .int .i64 (n : Int), .map none] tb, row A bs.length c (ci .i64 bs) 3 1]) (hq : RQ bs f n xs) (hl : xs.length ≤ 1048576) (hv : -9223372036854775808 ≤ v ∧ v ≤ 9223372036854775807) : Calls Try.prog 38 #[.pointer (some ⟨g, 0, none⟩), .int .i64 v] W fun e W' => ∃ (b : Nat) (m' : Nat) (F' : Lit → Int) (A' : Option Addr) (c' f' n' : Nat) (bs' : List Int), e = .returned (.bool true) ∧ St W M W' [mp Try.prog 3 3 b m' F', blk g [.slice A' bs'.length c', .int .i64 (f' : Int), .int .i64 (n' : Int), .map (some b)] tb, row A' bs'.length c' (ci .i64 bs') 3 1] ∧ RQ bs' f' n' (xs ++ [v]) ∧ (F' (.int .i64 v) = 1 ∧ ∀ x, x ≠ (.int .i64 v) → F' x = 0) ∧ m' ≤ 0 + 2 := by
  refine calls_enter [.pointer (some ⟨g, 0, none⟩), .int .i64 v, undef, undef, undef, undef, undef, undef, undef, undef, undef, undef, undef, undef, undef, undef, undef, undef, undef, undef, undef, undef, undef, undef, undef, undef, undef, undef, undef, undef, undef, undef, undef, undef, undef, undef, undef, undef, undef, undef, undef] Try.func38 rfl (by kernel_rfl) ?_
  refine wp_seq ?_
  refine wp_region_lit ?_
  refine ql (.bool false) (by kernel_rfl) (by kernel_rfl) ?_
  refine wpList_nil ?_
  refine x_then ?_
  refine wp_seq ?_
  refine wp_seq ?_
  refine wp_region_lit ?_
  refine ql (.pointer (some ⟨g, 0, none⟩)) (by kernel_rfl) (by kernel_rfl) ?_
  refine ql (.bool false) (by kernel_rfl) (by kernel_rfl) ?_
  refine wpList_nil ?_
  refine x_then ?_
  refine wp_cond_false (by kernel_rfl) ?_
  refine wp_skip ?_
  refine x_then ?_
  refine wp_seq ?_
  refine wp_seq ?_
  refine wp_region_lit ?_
  refine ql (.pointer (some ⟨g, 0, none⟩)) (by kernel_rfl) (by kernel_rfl) ?_
  refine ql (.pointer (some ⟨g, 0, none⟩)) (by kernel_rfl) (by kernel_rfl) ?_
  refine ql (.pointer (some ⟨g, 3, none⟩)) (by kernel_rfl) (by kernel_rfl) ?_
  refine ql (.map none) (by kernel_rfl) (R_load (p := ⟨g, 3, none⟩) (by kernel_rfl) (by kernel_rfl) (by kernel_rfl) (HS.cell (i := 0) (j := 3) rfl rfl)) ?_
  refine ql (.bool true) (by kernel_rfl) (by kernel_rfl) ?_
  refine wpList_nil ?_
  refine x_then ?_
  refine wp_cond_true (by kernel_rfl) ?_
  refine wp_region_lit ?_
  refine ql (.pointer (some ⟨g, 0, none⟩)) (by kernel_rfl) (by kernel_rfl) ?_
  refine kmm HS 3 3 (by kernel_rfl) ?_
  intro b1 W2 H_
  replace HS : St W M W2 [mp Try.prog 3 3 b1 0 (fun _ => 0), blk g [.slice A bs.length c, .int .i64 (f : Int), .int .i64 (n : Int), .map none] tb, row A bs.length c (ci .i64 bs) 3 1] := H_
  clear H_
  refine ql (.pointer (some ⟨g, 0, none⟩)) (by kernel_rfl) (by kernel_rfl) ?_
  refine ql (.pointer (some ⟨g, 3, none⟩)) (by kernel_rfl) (by kernel_rfl) ?_
  refine ks (v := .map (some b1)) HS 1 rfl (3) [.map (some b1)] (by kernel_rfl) (by kernel_rfl) (by kernel_rfl) (by kernel_rfl) (by kernel_rfl) (one_ (by kernel_rfl)) (Nat.le_of_ble_eq_true rfl) rfl ?_
  intro W3 H_
  replace HS : St W M W3 [mp Try.prog 3 3 b1 0 (fun _ => 0), blk g [.slice A bs.length c, .int .i64 (f : Int), .int .i64 (n : Int), .map (some b1)] tb, row A bs.length c (ci .i64 bs) 3 1] := H_
  clear H_
  refine wpList_nil ?_
  refine x_then ?_
  refine wp_seq ?_
  refine wp_seq ?_
  obtain ⟨F, hF⟩ : ∃ F : Lit → Int, F = fun _ => 0 := ⟨_, rfl⟩
  have hF0 : F (.int .i64 v) = 0 := by rw [hF]
  rw [← hF] at HS
  refine wp_region_lit ?_
  refine ql (.pointer (some ⟨g, 0, none⟩)) (by kernel_rfl) (by kernel_rfl) ?_
  refine ql (.pointer (some ⟨g, 0, none⟩)) (by kernel_rfl) (by kernel_rfl) ?_
  refine ql (.pointer (some ⟨g, 3, none⟩)) (by kernel_rfl) (by kernel_rfl) ?_
  refine ql (.map (some b1)) (by kernel_rfl) (R_load (p := ⟨g, 3, none⟩) (by kernel_rfl) (by kernel_rfl) (by kernel_rfl) (HS.cell (i := 1) (j := 3) rfl rfl)) ?_
  refine ql (.int .i64 v) (by kernel_rfl) (by kernel_rfl) ?_
  refine ql (.int .i64 (F (.int .i64 v))) (by kernel_rfl) (R_lookupM (b := b1) (F := F) (key := .int .i64 v) (kl := (.int .i64 v)) HS (i := 0) rfl (Maps.int_keyed Try.underlying3) Try.underlying55 Try.underlying3 (by kernel_rfl) (by kernel_rfl) (by kernel_rfl) (Maps.keyOf_int_mk Try.underlying3 (WalkArith.wf_i64 (by omega)))) ?_
  refine ql (.int .i64 ((F (.int .i64 v)) + 1)) (by kernel_rfl) (R_int (by kernel_rfl) (w64 (by omega))) ?_
  refine kmu (key := .int .i64 v) (kl := (.int .i64 v)) (u := (F (.int .i64 v)) + 1) HS 0 rfl (Maps.int_keyed Try.underlying3) Try.underlying55 Try.underlying3 (by unfold maxLen; omega) (by kernel_rfl) (by kernel_rfl) (by kernel_rfl) (by kernel_rfl) (WalkArith.wf_i64 (by omega)) (Maps.keyOf_int_mk Try.underlying3 (WalkArith.wf_i64 (by omega))) ?_
  intro W4 H_
  replace HS : St W M W4 [mp Try.prog 3 3 b1 (0 + 1) (fset F (.int .i64 v) ((F (.int .i64 v)) + 1)), blk g [.slice A bs.length c, .int .i64 (f : Int), .int .i64 (n : Int), .map (some b1)] tb, row A bs.length c (ci .i64 bs) 3 1] := H_
  clear H_
  refine wpList_nil ?_
  refine x_then ?_
  refine wp_seq ?_
  refine wp_region_lit ?_
  refine ql (.pointer (some ⟨g, 0, none⟩)) (by kernel_rfl) (by kernel_rfl) ?_
  refine ql (.pointer (some ⟨g, 0, none⟩)) (by kernel_rfl) (by kernel_rfl) ?_
  refine ql (.pointer (some ⟨g, 3, none⟩)) (by kernel_rfl) (by kernel_rfl) ?_
  refine ql (.map (some b1)) (by kernel_rfl) (R_load (p := ⟨g, 3, none⟩) (by kernel_rfl) (by kernel_rfl) (by kernel_rfl) (HS.cell (i := 1) (j := 3) rfl rfl)) ?_
  refine ql (.int .i64 v) (by kernel_rfl) (by kernel_rfl) ?_
  refine ql (.int .i64 ((fset F (.int .i64 v) ((F (.int .i64 v)) + 1)) (.int .i64 v))) (by kernel_rfl) (R_lookupM (b := b1) (F := (fset F (.int .i64 v) ((F (.int .i64 v)) + 1))) (key := .int .i64 v) (kl := (.int .i64 v)) HS (i := 0) rfl (Maps.int_keyed Try.underlying3) Try.underlying55 Try.underlying3 (by kernel_rfl) (by kernel_rfl) (by kernel_rfl) (Maps.keyOf_int_mk Try.underlying3 (WalkArith.wf_i64 (by omega)))) ?_
  refine ql (.bool false) (by kernel_rfl) (R_nbool (p := ((fset F (.int .i64 v) ((F (.int .i64 v)) + 1)) (.int .i64 v)) > (1 : Int)) (by kernel_rfl) (by rw [fset_same]; omega)) ?_
  refine wpList_nil ?_
  refine x_then ?_
  refine wp_cond_false (by kernel_rfl) ?_
  refine wp_skip ?_
  refine x_then ?_
  refine wp_seq ?_
  refine wp_region_lit ?_
  refine ql (.pointer (some ⟨g, 0, none⟩)) (by kernel_rfl) (by kernel_rfl) ?_
  refine ql (.pointer (some ⟨g, 0, none⟩)) (by kernel_rfl) (by kernel_rfl) ?_
  refine ql (.pointer (some ⟨g, 0, none⟩)) (by kernel_rfl) (by kernel_rfl) ?_
  refine ql (.int .i64 v) (by kernel_rfl) (by kernel_rfl) ?_
  refine kl HS 1 [.int .i64 v] 3 1 (by kernel_rfl) (by kernel_rfl) rfl (by decide) ?_
  intro g5 W6 H_
  replace HS : St W M W6 [row (some ⟨g5, 0, none⟩) 1 1 (ci .i64 ([v])) 3 1, mp Try.prog 3 3 b1 (0 + 1) (fset F (.int .i64 v) ((F (.int .i64 v)) + 1)), blk g [.slice A bs.length c, .int .i64 (f : Int), .int .i64 (n : Int), .map (some b1)] tb, row A bs.length c (ci .i64 bs) 3 1] := H_.cast_ (by kernel_rfl)
  clear H_
  refine qc (f := 36) (args := #[.pointer (some ⟨g, 0, none⟩), .slice (some ⟨g5, 0, none⟩) 1 1]) (by kernel_rfl) (R_call #[.pointer (some ⟨g, 0, none⟩), .slice (some ⟨g5, 0, none⟩) 1 1] Try.func36 (by kernel_rfl) (by kernel_rfl) (by kernel_rfl)) ?_
  replace HS : St W M W6 [blk g [.slice A bs.length c, .int .i64 (f : Int), .int .i64 (n : Int), .map (some b1)] tb, row A bs.length c (ci .i64 bs) 3 1, row (some ⟨g5, 0, none⟩) 1 1 (ci .i64 ([v])) 3 1, mp Try.prog 3 3 b1 (0 + 1) (fset F (.int .i64 v) ((F (.int .i64 v)) + 1))] := HS.perm (perm_ [2, 3, 0, 1] (by kernel_rfl) rfl)
  refine (qpush g tb [.map (some b1)] _ _ c _ f n bs xs ([v]) _ _ (St.focus (F := [blk g [.slice A bs.length c, .int .i64 (f : Int), .int .i64 (n : Int), .map (some b1)] tb, row A bs.length c (ci .i64 bs) 3 1, row (some ⟨g5, 0, none⟩) 1 1 (ci .i64 ([v])) 3 1]) HS) hq (by simp only [List.length_cons, List.length_nil]; omega)).mono ?_
  rintro e W7 ⟨A1, c1, f1, n1, bs1, rfl, H_, hq1⟩
  refine ⟨_, rfl, ?_⟩
  replace HS : St W M W7 [blk g [.slice A1 bs1.length c1, .int .i64 (f1 : Int), .int .i64 (n1 : Int), .map (some b1)] tb, row A1 bs1.length c1 (ci .i64 bs1) 3 1, mp Try.prog 3 3 b1 (0 + 1) (fset F (.int .i64 v) ((F (.int .i64 v)) + 1))] := HS.join (F := [blk g [.slice A bs.length c, .int .i64 (f : Int), .int .i64 (n : Int), .map (some b1)] tb, row A bs.length c (ci .i64 bs) 3 1, row (some ⟨g5, 0, none⟩) 1 1 (ci .i64 ([v])) 3 1]) (G := [blk g [.slice A1 bs1.length c1, .int .i64 (f1 : Int), .int .i64 (n1 : Int), .map (some b1)] tb, row A1 bs1.length c1 (ci .i64 bs1) 3 1]) H_
  clear H_
  refine wpList_nil ?_
  refine x_then ?_
  refine wp_seq ?_
  refine wp_region_lit ?_
  refine ql (.bool true) (by kernel_rfl) (by kernel_rfl) ?_
  refine wpList_nil ?_
  refine x_then ?_
  refine wp_ret ?_
  refine ret_ (.bool true) (by kernel_rfl) ?_
  replace HS : St W M W7 [mp Try.prog 3 3 b1 (0 + 1) (fset F (.int .i64 v) ((F (.int .i64 v)) + 1)), blk g [.slice A1 bs1.length c1, .int .i64 (f1 : Int), .int .i64 (n1 : Int), .map (some b1)] tb, row A1 bs1.length c1 (ci .i64 bs1) 3 1] := HS.perm (perm_ [2, 0, 1] (by kernel_rfl) rfl)
  exact ⟨_, _, _, _, _, _, _, _, rfl, HS, hq1, ⟨by rw [fset_same]; omega, fun x hx => by rw [fset_other _ _ hx, hF]⟩, by omega⟩

set_option maxRecDepth 100000 in
set_option maxHeartbeats 1000000 in
theorem wpush_new (g tb : Nat) (A : Option Addr) (c f n : Nat) (bs xs : List Int) (v : Int) (W : World) (M : Nat → Prop) (b m : Nat) (F : Lit → Int) (HS : St W M W [mp Try.prog 3 3 b m F, blk g [.slice A bs.length c, .int .i64 (f : Int), .int .i64 (n : Int), .map (some b)] tb, row A bs.length c (ci .i64 bs) 3 1]) (hq : RQ bs f n xs) (hl : xs.length ≤ 1048576) (hv : -9223372036854775808 ≤ v ∧ v ≤ 9223372036854775807) (hF : F (.int .i64 v) = 0) (hm : m ≤ 1048576) : Calls Try.prog 38 #[.pointer (some ⟨g, 0, none⟩), .int .i64 v] W fun e W' => ∃ (m' : Nat) (F' : Lit → Int) (A' : Option Addr) (c' f' n' : Nat) (bs' : List Int), e = .returned (.bool true) ∧ St W M W' [mp Try.prog 3 3 b m' F', blk g [.slice A' bs'.length c', .int .i64 (f' : Int), .int .i64 (n' : Int), .map (some b)] tb, row A' bs'.length c' (ci .i64 bs') 3 1] ∧ RQ bs' f' n' (xs ++ [v]) ∧ (F' (.int .i64 v) = 1 ∧ ∀ x, x ≠ (.int .i64 v) → F' x = F x) ∧ m' ≤ m + 2 := by
  refine calls_enter [.pointer (some ⟨g, 0, none⟩), .int .i64 v, undef, undef, undef, undef, undef, undef, undef, undef, undef, undef, undef, undef, undef, undef, undef, undef, undef, undef, undef, undef, undef, undef, undef, undef, undef, undef, undef, undef, undef, undef, undef, undef, undef, undef, undef, undef, undef, undef, undef] Try.func38 rfl (by kernel_rfl) ?_
  refine wp_seq ?_
  refine wp_region_lit ?_
  refine ql (.bool false) (by kernel_rfl) (by kernel_rfl) ?_
  refine wpList_nil ?_
  refine x_then ?_
  refine wp_seq ?_
  refine wp_seq ?_
  refine wp_region_lit ?_
  refine ql (.pointer (some ⟨g, 0, none⟩)) (by kernel_rfl) (by kernel_rfl) ?_
  refine ql (.bool false) (by kernel_rfl) (by kernel_rfl) ?_
  refine wpList_nil ?_
  refine x_then ?_
  refine wp_cond_false (by kernel_rfl) ?_
  refine wp_skip ?_
  refine x_then ?_
  refine wp_seq ?_
  refine wp_seq ?_
  refine wp_region_lit ?_
  refine ql (.pointer (some ⟨g, 0, none⟩)) (by kernel_rfl) (by kernel_rfl) ?_
  refine ql (.pointer (some ⟨g, 0, none⟩)) (by kernel_rfl) (by kernel_rfl) ?_
  refine ql (.pointer (some ⟨g, 3, none⟩)) (by kernel_rfl) (by kernel_rfl) ?_
  refine ql (.map (some b)) (by kernel_rfl) (R_load (p := ⟨g, 3, none⟩) (by kernel_rfl) (by kernel_rfl) (by kernel_rfl) (HS.cell (i := 1) (j := 3) rfl rfl)) ?_
  refine ql (.bool false) (by kernel_rfl) (by kernel_rfl) ?_
  refine wpList_nil ?_
  refine x_then ?_
  refine wp_cond_false (by kernel_rfl) ?_
  refine wp_skip ?_
  refine x_then ?_
  refine wp_seq ?_
  refine wp_seq ?_
  refine wp_region_lit ?_
  refine ql (.pointer (some ⟨g, 0, none⟩)) (by kernel_rfl) (by kernel_rfl) ?_
  refine ql (.pointer (some ⟨g, 0, none⟩)) (by kernel_rfl) (by kernel_rfl) ?_
  refine ql (.pointer (some ⟨g, 3, none⟩)) (by kernel_rfl) (by kernel_rfl) ?_
  refine ql (.map (some b)) (by kernel_rfl) (R_load (p := ⟨g, 3, none⟩) (by kernel_rfl) (by kernel_rfl) (by kernel_rfl) (HS.cell (i := 1) (j := 3) rfl rfl)) ?_
  refine ql (.int .i64 v) (by kernel_rfl) (by kernel_rfl) ?_
  refine ql (.int .i64 (F (.int .i64 v))) (by kernel_rfl) (R_lookupM (b := b) (F := F) (key := .int .i64 v) (kl := (.int .i64 v)) HS (i := 0) rfl (Maps.int_keyed Try.underlying3) Try.underlying55 Try.underlying3 (by kernel_rfl) (by kernel_rfl) (by kernel_rfl) (Maps.keyOf_int_mk Try.underlying3 (WalkArith.wf_i64 (by omega)))) ?_
  refine ql (.int .i64 ((F (.int .i64 v)) + 1)) (by kernel_rfl) (R_int (by kernel_rfl) (w64 (by omega))) ?_
  refine kmu (key := .int .i64 v) (kl := (.int .i64 v)) (u := (F (.int .i64 v)) + 1) HS 0 rfl (Maps.int_keyed Try.underlying3) Try.underlying55 Try.underlying3 (by unfold maxLen; omega) (by kernel_rfl) (by kernel_rfl) (by kernel_rfl) (by kernel_rfl) (WalkArith.wf_i64 (by omega)) (Maps.keyOf_int_mk Try.underlying3 (WalkArith.wf_i64 (by omega))) ?_
  intro W1 H_
  replace HS : St W M W1 [mp Try.prog 3 3 b (m + 1) (fset F (.int .i64 v) ((F (.int .i64 v)) + 1)), blk g [.slice A bs.length c, .int .i64 (f : Int), .int .i64 (n : Int), .map (some b)] tb, row A bs.length c (ci .i64 bs) 3 1] := H_
  clear H_
  refine wpList_nil ?_
  refine x_then ?_
  refine wp_seq ?_
  refine wp_region_lit ?_
  refine ql (.pointer (some ⟨g, 0, none⟩)) (by kernel_rfl) (by kernel_rfl) ?_
  refine ql (.pointer (some ⟨g, 0, none⟩)) (by kernel_rfl) (by kernel_rfl) ?_
  refine ql (.pointer (some ⟨g, 3, none⟩)) (by kernel_rfl) (by kernel_rfl) ?_
  refine ql (.map (some b)) (by kernel_rfl) (R_load (p := ⟨g, 3, none⟩) (by kernel_rfl) (by kernel_rfl) (by kernel_rfl) (HS.cell (i := 1) (j := 3) rfl rfl)) ?_
  refine ql (.int .i64 v) (by kernel_rfl) (by kernel_rfl) ?_
  refine ql (.int .i64 ((fset F (.int .i64 v) ((F (.int .i64 v)) + 1)) (.int .i64 v))) (by kernel_rfl) (R_lookupM (b := b) (F := (fset F (.int .i64 v) ((F (.int .i64 v)) + 1))) (key := .int .i64 v) (kl := (.int .i64 v)) HS (i := 0) rfl (Maps.int_keyed Try.underlying3) Try.underlying55 Try.underlying3 (by kernel_rfl) (by kernel_rfl) (by kernel_rfl) (Maps.keyOf_int_mk Try.underlying3 (WalkArith.wf_i64 (by omega)))) ?_
  refine ql (.bool false) (by kernel_rfl) (R_nbool (p := ((fset F (.int .i64 v) ((F (.int .i64 v)) + 1)) (.int .i64 v)) > (1 : Int)) (by kernel_rfl) (by rw [fset_same]; omega)) ?_
  refine wpList_nil ?_
  refine x_then ?_
  refine wp_cond_false (by kernel_rfl) ?_
  refine wp_skip ?_
  refine x_then ?_
  refine wp_seq ?_
  refine wp_region_lit ?_
  refine ql (.pointer (some ⟨g, 0, none⟩)) (by kernel_rfl) (by kernel_rfl) ?_
  refine ql (.pointer (some ⟨g, 0, none⟩)) (by kernel_rfl) (by kernel_rfl) ?_
  refine ql (.pointer (some ⟨g, 0, none⟩)) (by kernel_rfl) (by kernel_rfl) ?_
  refine ql (.int .i64 v) (by kernel_rfl) (by kernel_rfl) ?_
  refine kl HS 1 [.int .i64 v] 3 1 (by kernel_rfl) (by kernel_rfl) rfl (by decide) ?_
  intro g2 W3 H_
  replace HS : St W M W3 [row (some ⟨g2, 0, none⟩) 1 1 (ci .i64 ([v])) 3 1, mp Try.prog 3 3 b (m + 1) (fset F (.int .i64 v) ((F (.int .i64 v)) + 1)), blk g [.slice A bs.length c, .int .i64 (f : Int), .int .i64 (n : Int), .map (some b)] tb, row A bs.length c (ci .i64 bs) 3 1] := H_.cast_ (by kernel_rfl)
  clear H_
  refine qc (f := 36) (args := #[.pointer (some ⟨g, 0, none⟩), .slice (some ⟨g2, 0, none⟩) 1 1]) (by kernel_rfl) (R_call #[.pointer (some ⟨g, 0, none⟩), .slice (some ⟨g2, 0, none⟩) 1 1] Try.func36 (by kernel_rfl) (by kernel_rfl) (by kernel_rfl)) ?_
  replace HS : St W M W3 [blk g [.slice A bs.length c, .int .i64 (f : Int), .int .i64 (n : Int), .map (some b)] tb, row A bs.length c (ci .i64 bs) 3 1, row (some ⟨g2, 0, none⟩) 1 1 (ci .i64 ([v])) 3 1, mp Try.prog 3 3 b (m + 1) (fset F (.int .i64 v) ((F (.int .i64 v)) + 1))] := HS.perm (perm_ [2, 3, 0, 1] (by kernel_rfl) rfl)
  refine (qpush g tb [.map (some b)] _ _ c _ f n bs xs ([v]) _ _ (St.focus (F := [blk g [.slice A bs.length c, .int .i64 (f : Int), .int .i64 (n : Int), .map (some b)] tb, row A bs.length c (ci .i64 bs) 3 1, row (some ⟨g2, 0, none⟩) 1 1 (ci .i64 ([v])) 3 1]) HS) hq (by simp only [List.length_cons, List.length_nil]; omega)).mono ?_
  rintro e W4 ⟨A1, c1, f1, n1, bs1, rfl, H_, hq1⟩
  refine ⟨_, rfl, ?_⟩
  replace HS : St W M W4 [blk g [.slice A1 bs1.length c1, .int .i64 (f1 : Int), .int .i64 (n1 : Int), .map (some b)] tb, row A1 bs1.length c1 (ci .i64 bs1) 3 1, mp Try.prog 3 3 b (m + 1) (fset F (.int .i64 v) ((F (.int .i64 v)) + 1))] := HS.join (F := [blk g [.slice A bs.length c, .int .i64 (f : Int), .int .i64 (n : Int), .map (some b)] tb, row A bs.length c (ci .i64 bs) 3 1, row (some ⟨g2, 0, none⟩) 1 1 (ci .i64 ([v])) 3 1]) (G := [blk g [.slice A1 bs1.length c1, .int .i64 (f1 : Int), .int .i64 (n1 : Int), .map (some b)] tb, row A1 bs1.length c1 (ci .i64 bs1) 3 1]) H_
  clear H_
  refine wpList_nil ?_
  refine x_then ?_
  refine wp_seq ?_
  refine wp_region_lit ?_
  refine ql (.bool true) (by kernel_rfl) (by kernel_rfl) ?_
  refine wpList_nil ?_
  refine x_then ?_
  refine wp_ret ?_
  refine ret_ (.bool true) (by kernel_rfl) ?_
  replace HS : St W M W4 [mp Try.prog 3 3 b (m + 1) (fset F (.int .i64 v) ((F (.int .i64 v)) + 1)), blk g [.slice A1 bs1.length c1, .int .i64 (f1 : Int), .int .i64 (n1 : Int), .map (some b)] tb, row A1 bs1.length c1 (ci .i64 bs1) 3 1] := HS.perm (perm_ [2, 0, 1] (by kernel_rfl) rfl)
  have h1_ : F (.int .i64 v) + 1 = 1 := by omega
  exact ⟨_, _, _, _, _, _, _, rfl, HS, hq1, ⟨by rw [fset_same]; omega, fun x hx => by rw [fset_other _ _ hx]⟩, by omega⟩

set_option maxRecDepth 100000 in
set_option maxHeartbeats 1000000 in
theorem wpush_old (g tb : Nat) (A : Option Addr) (c f n : Nat) (bs xs : List Int) (v : Int) (W : World) (M : Nat → Prop) (b m : Nat) (F : Lit → Int) (HS : St W M W [mp Try.prog 3 3 b m F, blk g [.slice A bs.length c, .int .i64 (f : Int), .int .i64 (n : Int), .map (some b)] tb, row A bs.length c (ci .i64 bs) 3 1]) (hq : RQ bs f n xs) (hl : xs.length ≤ 1048576) (hv : -9223372036854775808 ≤ v ∧ v ≤ 9223372036854775807) (hF : F (.int .i64 v) = 1) (hm : m ≤ 1048576) : Calls Try.prog 38 #[.pointer (some ⟨g, 0, none⟩), .int .i64 v] W fun e W' => ∃ (m' : Nat) (F' : Lit → Int), e = .returned (.bool false) ∧ St W M W' [mp Try.prog 3 3 b m' F', blk g [.slice A bs.length c, .int .i64 (f : Int), .int .i64 (n : Int), .map (some b)] tb, row A bs.length c (ci .i64 bs) 3 1] ∧ (F' (.int .i64 v) = 1 ∧ ∀ x, x ≠ (.int .i64 v) → F' x = F x) ∧ m' ≤ m + 2 := by
  refine calls_enter [.pointer (some ⟨g, 0, none⟩), .int .i64 v, undef, undef, undef, undef, undef, undef, undef, undef, undef, undef, undef, undef, undef, undef, undef, undef, undef, undef, undef, undef, undef, undef, undef, undef, undef, undef, undef, undef, undef, undef, undef, undef, undef, undef, undef, undef, undef, undef, undef] Try.func38 rfl (by kernel_rfl) ?_
  refine wp_seq ?_
  refine wp_region_lit ?_
  refine ql (.bool false) (by kernel_rfl) (by kernel_rfl) ?_
  refine wpList_nil ?_
  refine x_then ?_
  refine wp_seq ?_
  refine wp_seq ?_
  refine wp_region_lit ?_
  refine ql (.pointer (some ⟨g, 0, none⟩)) (by kernel_rfl) (by kernel_rfl) ?_
  refine ql (.bool false) (by kernel_rfl) (by kernel_rfl) ?_
  refine wpList_nil ?_
  refine x_then ?_
  refine wp_cond_false (by kernel_rfl) ?_
  refine wp_skip ?_
  refine x_then ?_
  refine wp_seq ?_
  refine wp_seq ?_
  refine wp_region_lit ?_
  refine ql (.pointer (some ⟨g, 0, none⟩)) (by kernel_rfl) (by kernel_rfl) ?_
  refine ql (.pointer (some ⟨g, 0, none⟩)) (by kernel_rfl) (by kernel_rfl) ?_
  refine ql (.pointer (some ⟨g, 3, none⟩)) (by kernel_rfl) (by kernel_rfl) ?_
  refine ql (.map (some b)) (by kernel_rfl) (R_load (p := ⟨g, 3, none⟩) (by kernel_rfl) (by kernel_rfl) (by kernel_rfl) (HS.cell (i := 1) (j := 3) rfl rfl)) ?_
  refine ql (.bool false) (by kernel_rfl) (by kernel_rfl) ?_
  refine wpList_nil ?_
  refine x_then ?_
  refine wp_cond_false (by kernel_rfl) ?_
  refine wp_skip ?_
  refine x_then ?_
  refine wp_seq ?_
  refine wp_seq ?_
  refine wp_region_lit ?_
  refine ql (.pointer (some ⟨g, 0, none⟩)) (by kernel_rfl) (by kernel_rfl) ?_
  refine ql (.pointer (some ⟨g, 0, none⟩)) (by kernel_rfl) (by kernel_rfl) ?_
  refine ql (.pointer (some ⟨g, 3, none⟩)) (by kernel_rfl) (by kernel_rfl) ?_
  refine ql (.map (some b)) (by kernel_rfl) (R_load (p := ⟨g, 3, none⟩) (by kernel_rfl) (by kernel_rfl) (by kernel_rfl) (HS.cell (i := 1) (j := 3) rfl rfl)) ?_
  refine ql (.int .i64 v) (by kernel_rfl) (by kernel_rfl) ?_
  refine ql (.int .i64 (F (.int .i64 v))) (by kernel_rfl) (R_lookupM (b := b) (F := F) (key := .int .i64 v) (kl := (.int .i64 v)) HS (i := 0) rfl (Maps.int_keyed Try.underlying3) Try.underlying55 Try.underlying3 (by kernel_rfl) (by kernel_rfl) (by kernel_rfl) (Maps.keyOf_int_mk Try.underlying3 (WalkArith.wf_i64 (by omega)))) ?_
  refine ql (.int .i64 ((F (.int .i64 v)) + 1)) (by kernel_rfl) (R_int (by kernel_rfl) (w64 (by omega))) ?_
  refine kmu (key := .int .i64 v) (kl := (.int .i64 v)) (u := (F (.int .i64 v)) + 1) HS 0 rfl (Maps.int_keyed Try.underlying3) Try.underlying55 Try.underlying3 (by unfold maxLen; omega) (by kernel_rfl) (by kernel_rfl) (by kernel_rfl) (by kernel_rfl) (WalkArith.wf_i64 (by omega)) (Maps.keyOf_int_mk Try.underlying3 (WalkArith.wf_i64 (by omega))) ?_
  intro W1 H_
  replace HS : St W M W1 [mp Try.prog 3 3 b (m + 1) (fset F (.int .i64 v) ((F (.int .i64 v)) + 1)), blk g [.slice A bs.length c, .int .i64 (f : Int), .int .i64 (n : Int), .map (some b)] tb, row A bs.length c (ci .i64 bs) 3 1] := H_
  clear H_
  refine wpList_nil ?_
  refine x_then ?_
  refine wp_seq ?_
  refine wp_region_lit ?_
  refine ql (.pointer (some ⟨g, 0, none⟩)) (by kernel_rfl) (by kernel_rfl) ?_
  refine ql (.pointer (some ⟨g, 0, none⟩)) (by kernel_rfl) (by kernel_rfl) ?_
  refine ql (.pointer (some ⟨g, 3, none⟩)) (by kernel_rfl) (by kernel_rfl) ?_
  refine ql (.map (some b)) (by kernel_rfl) (R_load (p := ⟨g, 3, none⟩) (by kernel_rfl) (by kernel_rfl) (by kernel_rfl) (HS.cell (i := 1) (j := 3) rfl rfl)) ?_
  refine ql (.int .i64 v) (by kernel_rfl) (by kernel_rfl) ?_
  refine ql (.int .i64 ((fset F (.int .i64 v) ((F (.int .i64 v)) + 1)) (.int .i64 v))) (by kernel_rfl) (R_lookupM (b := b) (F := (fset F (.int .i64 v) ((F (.int .i64 v)) + 1))) (key := .int .i64 v) (kl := (.int .i64 v)) HS (i := 0) rfl (Maps.int_keyed Try.underlying3) Try.underlying55 Try.underlying3 (by kernel_rfl) (by kernel_rfl) (by kernel_rfl) (Maps.keyOf_int_mk Try.underlying3 (WalkArith.wf_i64 (by omega)))) ?_
  refine ql (.bool true) (by kernel_rfl) (R_bool (p := ((fset F (.int .i64 v) ((F (.int .i64 v)) + 1)) (.int .i64 v)) > (1 : Int)) (by kernel_rfl) (by rw [fset_same]; omega)) ?_
  refine wpList_nil ?_
  refine x_then ?_
  refine wp_cond_true (by kernel_rfl) ?_
  refine wp_seq ?_
  refine wp_region_lit ?_
  refine ql (.pointer (some ⟨g, 0, none⟩)) (by kernel_rfl) (by kernel_rfl) ?_
  refine ql (.pointer (some ⟨g, 0, none⟩)) (by kernel_rfl) (by kernel_rfl) ?_
  refine ql (.pointer (some ⟨g, 3, none⟩)) (by kernel_rfl) (by kernel_rfl) ?_
  refine ql (.map (some b)) (by kernel_rfl) (R_load (p := ⟨g, 3, none⟩) (by kernel_rfl) (by kernel_rfl) (by kernel_rfl) (HS.cell (i := 1) (j := 3) rfl rfl)) ?_
  refine ql (.int .i64 v) (by kernel_rfl) (by kernel_rfl) ?_
  refine kmu (key := .int .i64 v) (kl := (.int .i64 v)) (u := 1) HS 0 rfl (Maps.int_keyed Try.underlying3) Try.underlying55 Try.underlying3 (by unfold maxLen; omega) (by kernel_rfl) (by kernel_rfl) (by kernel_rfl) (by kernel_rfl) (WalkArith.wf_i64 (by omega)) (Maps.keyOf_int_mk Try.underlying3 (WalkArith.wf_i64 (by omega))) ?_
  intro W2 H_
  replace HS : St W M W2 [mp Try.prog 3 3 b ((m + 1) + 1) (fset (fset F (.int .i64 v) ((F (.int .i64 v)) + 1)) (.int .i64 v) 1), blk g [.slice A bs.length c, .int .i64 (f : Int), .int .i64 (n : Int), .map (some b)] tb, row A bs.length c (ci .i64 bs) 3 1] := H_
  clear H_
  refine wpList_nil ?_
  refine x_then ?_
  refine wp_seq ?_
  refine wp_region_lit ?_
  refine ql (.bool false) (by kernel_rfl) (by kernel_rfl) ?_
  refine wpList_nil ?_
  refine x_then ?_
  refine wp_ret ?_
  refine x_thenR ?_
  refine ret_ (.bool false) (by kernel_rfl) ?_
  exact ⟨_, _, rfl, HS, ⟨fset_same _ _ _, fun x hx => by rw [fset_other _ _ hx, fset_other _ _ hx]⟩, by omega⟩

set_option maxRecDepth 100000 in
set_option maxHeartbeats 1000000 in
theorem wpop_nil (g tb : Nat) (A : Option Addr) (c f n : Nat) (bs xs : List Int) (W : World) (M : Nat → Prop) (mv : Value) (HS : St W M W [blk g [.slice A bs.length c, .int .i64 (f : Int), .int .i64 (n : Int), mv] tb, row A bs.length c (ci .i64 bs) 3 1]) (hq : RQ bs f n xs) (hx : xs = []) : Calls Try.prog 42 #[.pointer (some ⟨g, 0, none⟩)] W fun e W' => e = .returned (.tuple #[.int .i64 0, .bool false]) ∧ St W M W' [blk g [.slice A bs.length c, .int .i64 (f : Int), .int .i64 (n : Int), mv] tb, row A bs.length c (ci .i64 bs) 3 1] := by
  refine calls_enter [.pointer (some ⟨g, 0, none⟩), undef, undef, undef, undef, undef, undef, undef, undef, undef, undef, undef, undef, undef, undef, undef, undef, undef, undef, undef, undef, undef, undef, undef, undef] Try.func42 rfl (by kernel_rfl) ?_
  refine wp_seq ?_
  refine wp_region_lit ?_
  refine ql (.int .i64 0) (by kernel_rfl) (by kernel_rfl) ?_
  refine ql (.bool false) (by kernel_rfl) (by kernel_rfl) ?_
  refine wpList_nil ?_
  refine x_then ?_
  refine wp_seq ?_
  refine wp_seq ?_
  refine wp_region_lit ?_
  refine ql (.pointer (some ⟨g, 0, none⟩)) (by kernel_rfl) (by kernel_rfl) ?_
  refine ql (.bool false) (by kernel_rfl) (by kernel_rfl) ?_
  refine wpList_nil ?_
  refine x_then ?_
  refine wp_cond_false (by kernel_rfl) ?_
  refine wp_skip ?_
  refine x_then ?_
  refine wp_seq ?_
  refine wp_region_lit ?_
  refine ql (.pointer (some ⟨g, 0, none⟩)) (by kernel_rfl) (by kernel_rfl) ?_
  refine ql (.pointer (some ⟨g, 0, none⟩)) (by kernel_rfl) (by kernel_rfl) ?_
  refine ql (.pointer (some ⟨g, 0, none⟩)) (by kernel_rfl) (by kernel_rfl) ?_
  refine qc (f := 40) (args := #[.pointer (some ⟨g, 0, none⟩)]) (by kernel_rfl) (R_call #[.pointer (some ⟨g, 0, none⟩)] Try.func40 (by kernel_rfl) (by kernel_rfl) (by kernel_rfl)) ?_
  refine (qpop_nil g tb [mv] _ c f n bs xs _ _ (St.focus (F := [blk g [.slice A bs.length c, .int .i64 (f : Int), .int .i64 (n : Int), mv] tb, row A bs.length c (ci .i64 bs) 3 1]) HS) hq hx).mono ?_
  rintro e W1 ⟨rfl, H_⟩
  refine ⟨_, rfl, ?_⟩
  replace HS : St W M W1 [blk g [.slice A bs.length c, .int .i64 (f : Int), .int .i64 (n : Int), mv] tb, row A bs.length c (ci .i64 bs) 3 1] := HS.join (F := [blk g [.slice A bs.length c, .int .i64 (f : Int), .int .i64 (n : Int), mv] tb, row A bs.length c (ci .i64 bs) 3 1]) (G := [blk g [.slice A bs.length c, .int .i64 (f : Int), .int .i64 (n : Int), mv] tb, row A bs.length c (ci .i64 bs) 3 1]) H_
  clear H_
  refine ql (.tuple #[.int .i64 0, .bool false]) (by kernel_rfl) (by kernel_rfl) ?_
  refine ql (.int .i64 0) (by kernel_rfl) (by kernel_rfl) ?_
  refine ql (.bool false) (by kernel_rfl) (by kernel_rfl) ?_
  refine ql (.int .i64 0) (by kernel_rfl) (by kernel_rfl) ?_
  refine ql (.bool false) (by kernel_rfl) (by kernel_rfl) ?_
  refine wpList_nil ?_
  refine x_then ?_
  refine wp_seq ?_
  refine wp_seq ?_
  refine wp_region_lit ?_
  refine ql (.bool false) (by kernel_rfl) (by kernel_rfl) ?_
  refine wpList_nil ?_
  refine x_then ?_
  refine wp_cond_false (by kernel_rfl) ?_
  refine wp_skip ?_
  refine x_then ?_
  refine wp_seq ?_
  refine wp_region_lit ?_
  refine ql (.int .i64 0) (by kernel_rfl) (by kernel_rfl) ?_
  refine ql (.bool false) (by kernel_rfl) (by kernel_rfl) ?_
  refine ql (.int .i64 0) (by kernel_rfl) (by kernel_rfl) ?_
  refine ql (.bool false) (by kernel_rfl) (by kernel_rfl) ?_
  refine wpList_nil ?_
  refine x_then ?_
  refine wp_ret ?_
  refine ret_ (.tuple #[.int .i64 0, .bool false]) (by kernel_rfl) ?_
  exact ⟨rfl, HS⟩

set_option maxRecDepth 100000 in
set_option maxHeartbeats 1000000 in
theorem wpop_some (g tb : Nat) (A : Option Addr) (c f n : Nat) (bs xs : List Int) (W : World) (M : Nat → Prop) (b m : Nat) (F : Lit → Int) (HS : St W M W [mp Try.prog 3 3 b m F, blk g [.slice A bs.length c, .int .i64 (f : Int), .int .i64 (n : Int), .map (some b)] tb, row A bs.length c (ci .i64 bs) 3 1]) (hq : RQ bs f n xs) (hx : 0 < xs.length) (hv : -9223372036854775808 ≤ rdI xs 0 ∧ rdI xs 0 ≤ 9223372036854775807) : Calls Try.prog 42 #[.pointer (some ⟨g, 0, none⟩)] W fun e W' => ∃ (F' : Lit → Int) (A' : Option Addr) (c' f' : Nat) (bs' : List Int), e = .returned (.tuple #[.int .i64 (rdI xs 0), .bool true]) ∧ St W M W' [mp Try.prog 3 3 b m F', blk g [.slice A' bs'.length c', .int .i64 (f' : Int), .int .i64 ((n - 1 : Nat) : Int), .map (some b)] tb, row A' bs'.length c' (ci .i64 bs') 3 1] ∧ RQ bs' f' (n - 1) xs.tail ∧ (F' (.int .i64 (rdI xs 0)) = 0 ∧ ∀ x, x ≠ (.int .i64 (rdI xs 0)) → F' x = F x) := by
  refine calls_enter [.pointer (some ⟨g, 0, none⟩), undef, undef, undef, undef, undef, undef, undef, undef, undef, undef, undef, undef, undef, undef, undef, undef, undef, undef, undef, undef, undef, undef, undef, undef] Try.func42 rfl (by kernel_rfl) ?_
  refine wp_seq ?_
  refine wp_region_lit ?_
  refine ql (.int .i64 0) (by kernel_rfl) (by kernel_rfl) ?_
  refine ql (.bool false) (by kernel_rfl) (by kernel_rfl) ?_
  refine wpList_nil ?_
  refine x_then ?_
  refine wp_seq ?_
  refine wp_seq ?_
  refine wp_region_lit ?_
  refine ql (.pointer (some ⟨g, 0, none⟩)) (by kernel_rfl) (by kernel_rfl) ?_
  refine ql (.bool false) (by kernel_rfl) (by kernel_rfl) ?_
  refine wpList_nil ?_
  refine x_then ?_
  refine wp_cond_false (by kernel_rfl) ?_
  refine wp_skip ?_
  refine x_then ?_
  refine wp_seq ?_
  refine wp_region_lit ?_
  refine ql (.pointer (some ⟨g, 0, none⟩)) (by kernel_rfl) (by kernel_rfl) ?_
  refine ql (.pointer (some ⟨g, 0, none⟩)) (by kernel_rfl) (by kernel_rfl) ?_
  refine ql (.pointer (some ⟨g, 0, none⟩)) (by kernel_rfl) (by kernel_rfl) ?_
  refine qc (f := 40) (args := #[.pointer (some ⟨g, 0, none⟩)]) (by kernel_rfl) (R_call #[.pointer (some ⟨g, 0, none⟩)] Try.func40 (by kernel_rfl) (by kernel_rfl) (by kernel_rfl)) ?_
  replace HS : St W M W [blk g [.slice A bs.length c, .int .i64 (f : Int), .int .i64 (n : Int), .map (some b)] tb, row A bs.length c (ci .i64 bs) 3 1, mp Try.prog 3 3 b m F] := HS.perm (perm_ [1, 2, 0] (by kernel_rfl) rfl)
  refine (qpop_some g tb [.map (some b)] _ c f n bs xs _ _ (St.focus (F := [blk g [.slice A bs.length c, .int .i64 (f : Int), .int .i64 (n : Int), .map (some b)] tb, row A bs.length c (ci .i64 bs) 3 1]) HS) hq hx).mono ?_
  rintro e W1 ⟨A1, c1, f1, bs1, rfl, H_, hq1⟩
  refine ⟨_, rfl, ?_⟩
  replace HS : St W M W1 [blk g [.slice A1 bs1.length c1, .int .i64 (f1 : Int), .int .i64 ((n - 1 : Nat) : Int), .map (some b)] tb, row A1 bs1.length c1 (ci .i64 bs1) 3 1, mp Try.prog 3 3 b m F] := HS.join (F := [blk g [.slice A bs.length c, .int .i64 (f : Int), .int .i64 (n : Int), .map (some b)] tb, row A bs.length c (ci .i64 bs) 3 1]) (G := [blk g [.slice A1 bs1.length c1, .int .i64 (f1 : Int), .int .i64 ((n - 1 : Nat) : Int), .map (some b)] tb, row A1 bs1.length c1 (ci .i64 bs1) 3 1]) H_
  clear H_
  refine ql (.tuple #[.int .i64 (rdI xs 0), .bool true]) (by kernel_rfl) (by kernel_rfl) ?_
  refine ql (.int .i64 (rdI xs 0)) (by kernel_rfl) (by kernel_rfl) ?_
  refine ql (.bool true) (by kernel_rfl) (by kernel_rfl) ?_
  refine ql (.int .i64 (rdI xs 0)) (by kernel_rfl) (by kernel_rfl) ?_
  refine ql (.bool true) (by kernel_rfl) (by kernel_rfl) ?_
  refine wpList_nil ?_
  refine x_then ?_
  refine wp_seq ?_
  refine wp_seq ?_
  refine wp_region_lit ?_
  refine ql (.bool true) (by kernel_rfl) (by kernel_rfl) ?_
  refine wpList_nil ?_
  refine x_then ?_
  refine wp_cond_true (by kernel_rfl) ?_
  refine wp_region_lit ?_
  refine ql (.pointer (some ⟨g, 0, none⟩)) (by kernel_rfl) (by kernel_rfl) ?_
  refine ql (.pointer (some ⟨g, 0, none⟩)) (by kernel_rfl) (by kernel_rfl) ?_
  refine ql (.pointer (some ⟨g, 3, none⟩)) (by kernel_rfl) (by kernel_rfl) ?_
  refine ql (.map (some b)) (by kernel_rfl) (R_load (p := ⟨g, 3, none⟩) (by kernel_rfl) (by kernel_rfl) (by kernel_rfl) (HS.cell (i := 0) (j := 3) rfl rfl)) ?_
  refine ql (.int .i64 (rdI xs 0)) (by kernel_rfl) (by kernel_rfl) ?_
  refine kmd (key := .int .i64 (rdI xs 0)) (kl := (.int .i64 (rdI xs 0))) HS 2 rfl (Maps.int_keyed Try.underlying3) Try.underlying55 (by kernel_rfl) (by kernel_rfl) (by kernel_rfl) (Maps.keyOf_int_mk Try.underlying3 (WalkArith.wf_i64 (by omega))) ?_
  intro W2 H_
  replace HS : St W M W2 [blk g [.slice A1 bs1.length c1, .int .i64 (f1 : Int), .int .i64 ((n - 1 : Nat) : Int), .map (some b)] tb, row A1 bs1.length c1 (ci .i64 bs1) 3 1, mp Try.prog 3 3 b m (fset F (.int .i64 (rdI xs 0)) 0)] := H_
  clear H_
  refine wpList_nil ?_
  refine x_then ?_
  refine wp_seq ?_
  refine wp_region_lit ?_
  refine ql (.int .i64 (rdI xs 0)) (by kernel_rfl) (by kernel_rfl) ?_
  refine ql (.bool true) (by kernel_rfl) (by kernel_rfl) ?_
  refine ql (.int .i64 (rdI xs 0)) (by kernel_rfl) (by kernel_rfl) ?_
  refine ql (.bool true) (by kernel_rfl) (by kernel_rfl) ?_
  refine wpList_nil ?_
  refine x_then ?_
  refine wp_ret ?_
  refine ret_ (.tuple #[.int .i64 (rdI xs 0), .bool true]) (by kernel_rfl) ?_
  replace HS : St W M W2 [mp Try.prog 3 3 b m (fset F (.int .i64 (rdI xs 0)) 0), blk g [.slice A1 bs1.length c1, .int .i64 (f1 : Int), .int .i64 ((n - 1 : Nat) : Int), .map (some b)] tb, row A1 bs1.length c1 (ci .i64 bs1) 3 1] := HS.perm (perm_ [2, 0, 1] (by kernel_rfl) rfl)
  exact ⟨_, _, _, _, _, rfl, HS, hq1, fset_same _ _ _, fun x hx => by rw [fset_other _ _ hx]⟩

set_option maxRecDepth 100000 in
set_option maxHeartbeats 1000000 in
theorem wlen (g n : Nat) (W : World) (hc : W.cell? ⟨g, 2, none⟩ = some (.int .i64 (n : Int))) : Calls Try.prog 44 #[.pointer (some ⟨g, 0, none⟩)] W fun e W' => e = .returned (.int .i64 (n : Int)) ∧ St W (owns []) W' [] := by
  have HS : St W (owns []) W [] := St.start W _
  refine calls_enter [.pointer (some ⟨g, 0, none⟩), undef, undef, undef, undef, undef, undef, undef, undef] Try.func44 rfl (by kernel_rfl) ?_
  refine wp_seq ?_
  refine wp_region_lit ?_
  refine ql (.int .i64 0) (by kernel_rfl) (by kernel_rfl) ?_
  refine wpList_nil ?_
  refine x_then ?_
  refine wp_seq ?_
  refine wp_seq ?_
  refine wp_region_lit ?_
  refine ql (.pointer (some ⟨g, 0, none⟩)) (by kernel_rfl) (by kernel_rfl) ?_
  refine ql (.bool false) (by kernel_rfl) (by kernel_rfl) ?_
  refine wpList_nil ?_
  refine x_then ?_
  refine wp_cond_false (by kernel_rfl) ?_
  refine wp_skip ?_
  refine x_then ?_
  refine wp_seq ?_
  refine wp_region_lit ?_
  refine ql (.pointer (some ⟨g, 0, none⟩)) (by kernel_rfl) (by kernel_rfl) ?_
  refine ql (.pointer (some ⟨g, 0, none⟩)) (by kernel_rfl) (by kernel_rfl) ?_
  refine ql (.pointer (some ⟨g, 0, none⟩)) (by kernel_rfl) (by kernel_rfl) ?_
  refine qc (f := 43) (args := #[.pointer (some ⟨g, 0, none⟩)]) (by kernel_rfl) (R_call #[.pointer (some ⟨g, 0, none⟩)] Try.func43 (by kernel_rfl) (by kernel_rfl) (by kernel_rfl)) ?_
  refine (qlen g n _ (HS.old0 hc)).mono ?_
  rintro e W1 ⟨rfl, H_⟩
  refine ⟨_, rfl, ?_⟩
  replace HS : St W (owns []) W1 [] := HS.join (F := []) (G := []) H_
  clear H_
  refine ql (.int .i64 (n : Int)) (by kernel_rfl) (by kernel_rfl) ?_
  refine wpList_nil ?_
  refine x_then ?_
  refine wp_ret ?_
  refine ret_ (.int .i64 (n : Int)) (by kernel_rfl) ?_
  exact ⟨rfl, HS⟩

set_option maxRecDepth 100000 in
set_option maxHeartbeats 1000000 in
theorem wpushS_nil (g tb : Nat) (A : Option Addr) (c f n : Nat) (bs xs : List ByteArray) (v : ByteArray) (W : World) (M : Nat → Prop) (HS : St W M W [blk g [.slice A bs.length c, .int .i64 (f : Int), .int .i64 (n : Int), .map none] tb, row A bs.length c (cz bs) 9 1]) (hq : RQS bs f n xs) (hl : xs.length ≤ 1048576) (hv : v.size ≤ 1099511627776) : Calls Try.prog 78 #[.pointer (some ⟨g, 0, none⟩), .string v] W fun e W' => ∃ (b : Nat) (m' : Nat) (F' : Lit → Int) (A' : Option Addr) (c' f' n' : Nat) (bs' : List ByteArray), e = .returned (.bool true) ∧ St W M W' [mp Try.prog 9 3 b m' F', blk g [.slice A' bs'.length c', .int .i64 (f' : Int), .int .i64 (n' : Int), .map (some b)] tb, row A' bs'.length c' (cz bs') 9 1] ∧ RQS bs' f' n' (xs ++ [v]) ∧ (F' (.string v.data.toList) = 1 ∧ ∀ x, x ≠ (.string v.data.toList) → F' x = 0) ∧ m' ≤ 0 + 2 := by
  refine calls_enter [.pointer (some ⟨g, 0, none⟩), .string v, undef, undef, undef, undef, undef, undef, undef, undef, undef, undef, undef, undef, undef, undef, undef, undef, undef, undef, undef, undef, undef, undef, undef, undef, undef, undef, undef, undef, undef, undef, undef, undef, undef, undef, undef, undef, undef, undef, undef] Try.func78 rfl (by kernel_rfl) ?_
  refine wp_seq ?_
  refine wp_region_lit ?_
  refine ql (.bool false) (by kernel_rfl) (by kernel_rfl) ?_
  refine wpList_nil ?_
  refine x_then ?_
  refine wp_seq ?_
  refine wp_seq ?_
  refine wp_region_lit ?_
  refine ql (.pointer (some ⟨g, 0, none⟩)) (by kernel_rfl) (by kernel_rfl) ?_
  refine ql (.bool false) (by kernel_rfl) (by kernel_rfl) ?_
  refine wpList_nil ?_
  refine x_then ?_
  refine wp_cond_false (by kernel_rfl) ?_
  refine wp_skip ?_
  refine x_then ?_
  refine wp_seq ?_
  refine wp_seq ?_
  refine wp_region_lit ?_
  refine ql (.pointer (some ⟨g, 0, none⟩)) (by kernel_rfl) (by kernel_rfl) ?_
  refine ql (.pointer (some ⟨g, 0, none⟩)) (by kernel_rfl) (by kernel_rfl) ?_
  refine ql (.pointer (some ⟨g, 3, none⟩)) (by kernel_rfl) (by kernel_rfl) ?_
  refine ql (.map none) (by kernel_rfl) (R_load (p := ⟨g, 3, none⟩) (by kernel_rfl) (by kernel_rfl) (by kernel_rfl) (HS.cell (i := 0) (j := 3) rfl rfl)) ?_
  refine ql (.bool true) (by kernel_rfl) (by kernel_rfl) ?_
  refine wpList_nil ?_
  refine x_then ?_
  refine wp_cond_true (by kernel_rfl) ?_
  refine wp_region_lit ?_
  refine ql (.pointer (some ⟨g, 0, none⟩)) (by kernel_rfl) (by kernel_rfl) ?_
  refine kmm HS 9 3 (by kernel_rfl) ?_
  intro b1 W2 H_
  replace HS : St W M W2 [mp Try.prog 9 3 b1 0 (fun _ => 0), blk g [.slice A bs.length c, .int .i64 (f : Int), .int .i64 (n : Int), .map none] tb, row A bs.length c (cz bs) 9 1] := H_
  clear H_
  refine ql (.pointer (some ⟨g, 0, none⟩)) (by kernel_rfl) (by kernel_rfl) ?_
  refine ql (.pointer (some ⟨g, 3, none⟩)) (by kernel_rfl) (by kernel_rfl) ?_
  refine ks (v := .map (some b1)) HS 1 rfl (3) [.map (some b1)] (by kernel_rfl) (by kernel_rfl) (by kernel_rfl) (by kernel_rfl) (by kernel_rfl) (one_ (by kernel_rfl)) (Nat.le_of_ble_eq_true rfl) rfl ?_
  intro W3 H_
  replace HS : St W M W3 [mp Try.prog 9 3 b1 0 (fun _ => 0), blk g [.slice A bs.length c, .int .i64 (f : Int), .int .i64 (n : Int), .map (some b1)] tb, row A bs.length c (cz bs) 9 1] := H_
  clear H_
  refine wpList_nil ?_
  refine x_then ?_
  refine wp_seq ?_
  refine wp_seq ?_
  obtain ⟨F, hF⟩ : ∃ F : Lit → Int, F = fun _ => 0 := ⟨_, rfl⟩
  have hF0 : F (.string v.data.toList) = 0 := by rw [hF]
  rw [← hF] at HS
  refine wp_region_lit ?_
  refine ql (.pointer (some ⟨g, 0, none⟩)) (by kernel_rfl) (by kernel_rfl) ?_
  refine ql (.pointer (some ⟨g, 0, none⟩)) (by kernel_rfl) (by kernel_rfl) ?_
  refine ql (.pointer (some ⟨g, 3, none⟩)) (by kernel_rfl) (by kernel_rfl) ?_
  refine ql (.map (some b1)) (by kernel_rfl) (R_load (p := ⟨g, 3, none⟩) (by kernel_rfl) (by kernel_rfl) (by kernel_rfl) (HS.cell (i := 1) (j := 3) rfl rfl)) ?_
  refine ql (.string v) (by kernel_rfl) (by kernel_rfl) ?_
  refine ql (.int .i64 (F (.string v.data.toList))) (by kernel_rfl) (R_lookupM (b := b1) (F := F) (key := .string v) (kl := (.string v.data.toList)) HS (i := 0) rfl (Maps.string_keyed Try.underlying9) Try.underlying114 Try.underlying3 (by kernel_rfl) (by kernel_rfl) (by kernel_rfl) (WideMaps.keyOf_string_mk Try.underlying9 (by unfold maxLen; omega))) ?_
  refine ql (.int .i64 ((F (.string v.data.toList)) + 1)) (by kernel_rfl) (R_int (by kernel_rfl) (w64 (by omega))) ?_
  refine kmu (key := .string v) (kl := (.string v.data.toList)) (u := (F (.string v.data.toList)) + 1) HS 0 rfl (Maps.string_keyed Try.underlying9) Try.underlying114 Try.underlying3 (by unfold maxLen; omega) (by kernel_rfl) (by kernel_rfl) (by kernel_rfl) (by kernel_rfl) (WalkArith.wf_i64 (by omega)) (WideMaps.keyOf_string_mk Try.underlying9 (by unfold maxLen; omega)) ?_
  intro W4 H_
  replace HS : St W M W4 [mp Try.prog 9 3 b1 (0 + 1) (fset F (.string v.data.toList) ((F (.string v.data.toList)) + 1)), blk g [.slice A bs.length c, .int .i64 (f : Int), .int .i64 (n : Int), .map (some b1)] tb, row A bs.length c (cz bs) 9 1] := H_
  clear H_
  refine wpList_nil ?_
  refine x_then ?_
  refine wp_seq ?_
  refine wp_region_lit ?_
  refine ql (.pointer (some ⟨g, 0, none⟩)) (by kernel_rfl) (by kernel_rfl) ?_
  refine ql (.pointer (some ⟨g, 0, none⟩)) (by kernel_rfl) (by kernel_rfl) ?_
  refine ql (.pointer (some ⟨g, 3, none⟩)) (by kernel_rfl) (by kernel_rfl) ?_
  refine ql (.map (some b1)) (by kernel_rfl) (R_load (p := ⟨g, 3, none⟩) (by kernel_rfl) (by kernel_rfl) (by kernel_rfl) (HS.cell (i := 1) (j := 3) rfl rfl)) ?_
  refine ql (.string v) (by kernel_rfl) (by kernel_rfl) ?_
  refine ql (.int .i64 ((fset F (.string v.data.toList) ((F (.string v.data.toList)) + 1)) (.string v.data.toList))) (by kernel_rfl) (R_lookupM (b := b1) (F := (fset F (.string v.data.toList) ((F (.string v.data.toList)) + 1))) (key := .string v) (kl := (.string v.data.toList)) HS (i := 0) rfl (Maps.string_keyed Try.underlying9) Try.underlying114 Try.underlying3 (by kernel_rfl) (by kernel_rfl) (by kernel_rfl) (WideMaps.keyOf_string_mk Try.underlying9 (by unfold maxLen; omega))) ?_
  refine ql (.bool false) (by kernel_rfl) (R_nbool (p := ((fset F (.string v.data.toList) ((F (.string v.data.toList)) + 1)) (.string v.data.toList)) > (1 : Int)) (by kernel_rfl) (by rw [fset_same]; omega)) ?_
  refine wpList_nil ?_
  refine x_then ?_
  refine wp_cond_false (by kernel_rfl) ?_
  refine wp_skip ?_
  refine x_then ?_
  refine wp_seq ?_
  refine wp_region_lit ?_
  refine ql (.pointer (some ⟨g, 0, none⟩)) (by kernel_rfl) (by kernel_rfl) ?_
  refine ql (.pointer (some ⟨g, 0, none⟩)) (by kernel_rfl) (by kernel_rfl) ?_
  refine ql (.pointer (some ⟨g, 0, none⟩)) (by kernel_rfl) (by kernel_rfl) ?_
  refine ql (.string v) (by kernel_rfl) (by kernel_rfl) ?_
  refine kl HS 1 [.string v] 9 1 (by kernel_rfl) (by kernel_rfl) rfl (by decide) ?_
  intro g5 W6 H_
  replace HS : St W M W6 [row (some ⟨g5, 0, none⟩) 1 1 (cz ([v])) 9 1, mp Try.prog 9 3 b1 (0 + 1) (fset F (.string v.data.toList) ((F (.string v.data.toList)) + 1)), blk g [.slice A bs.length c, .int .i64 (f : Int), .int .i64 (n : Int), .map (some b1)] tb, row A bs.length c (cz bs) 9 1] := H_.cast_ (by kernel_rfl)
  clear H_
  refine qc (f := 65) (args := #[.pointer (some ⟨g, 0, none⟩), .slice (some ⟨g5, 0, none⟩) 1 1]) (by kernel_rfl) (R_call #[.pointer (some ⟨g, 0, none⟩), .slice (some ⟨g5, 0, none⟩) 1 1] Try.func65 (by kernel_rfl) (by kernel_rfl) (by kernel_rfl)) ?_
  replace HS : St W M W6 [blk g [.slice A bs.length c, .int .i64 (f : Int), .int .i64 (n : Int), .map (some b1)] tb, row A bs.length c (cz bs) 9 1, row (some ⟨g5, 0, none⟩) 1 1 (cz ([v])) 9 1, mp Try.prog 9 3 b1 (0 + 1) (fset F (.string v.data.toList) ((F (.string v.data.toList)) + 1))] := HS.perm (perm_ [2, 3, 0, 1] (by kernel_rfl) rfl)
  refine (qpushS g tb [.map (some b1)] _ _ c _ f n bs xs ([v]) _ _ (St.focus (F := [blk g [.slice A bs.length c, .int .i64 (f : Int), .int .i64 (n : Int), .map (some b1)] tb, row A bs.length c (cz bs) 9 1, row (some ⟨g5, 0, none⟩) 1 1 (cz ([v])) 9 1]) HS) hq (by simp only [List.length_cons, List.length_nil]; omega)).mono ?_
  rintro e W7 ⟨A1, c1, f1, n1, bs1, rfl, H_, hq1⟩
  refine ⟨_, rfl, ?_⟩
  replace HS : St W M W7 [blk g [.slice A1 bs1.length c1, .int .i64 (f1 : Int), .int .i64 (n1 : Int), .map (some b1)] tb, row A1 bs1.length c1 (cz bs1) 9 1, mp Try.prog 9 3 b1 (0 + 1) (fset F (.string v.data.toList) ((F (.string v.data.toList)) + 1))] := HS.join (F := [blk g [.slice A bs.length c, .int .i64 (f : Int), .int .i64 (n : Int), .map (some b1)] tb, row A bs.length c (cz bs) 9 1, row (some ⟨g5, 0, none⟩) 1 1 (cz ([v])) 9 1]) (G := [blk g [.slice A1 bs1.length c1, .int .i64 (f1 : Int), .int .i64 (n1 : Int), .map (some b1)] tb, row A1 bs1.length c1 (cz bs1) 9 1]) H_
  clear H_
  refine wpList_nil ?_
  refine x_then ?_
  refine wp_seq ?_
  refine wp_region_lit ?_
  refine ql (.bool true) (by kernel_rfl) (by kernel_rfl) ?_
  refine wpList_nil ?_
  refine x_then ?_
  refine wp_ret ?_
  refine ret_ (.bool true) (by kernel_rfl) ?_
  replace HS : St W M W7 [mp Try.prog 9 3 b1 (0 + 1) (fset F (.string v.data.toList) ((F (.string v.data.toList)) + 1)), blk g [.slice A1 bs1.length c1, .int .i64 (f1 : Int), .int .i64 (n1 : Int), .map (some b1)] tb, row A1 bs1.length c1 (cz bs1) 9 1] := HS.perm (perm_ [2, 0, 1] (by kernel_rfl) rfl)
  exact ⟨_, _, _, _, _, _, _, _, rfl, HS, hq1, ⟨by rw [fset_same]; omega, fun x hx => by rw [fset_other _ _ hx, hF]⟩, by omega⟩

set_option maxRecDepth 100000 in
set_option maxHeartbeats 1000000 in
theorem wpushS_new (g tb : Nat) (A : Option Addr) (c f n : Nat) (bs xs : List ByteArray) (v : ByteArray) (W : World) (M : Nat → Prop) (b m : Nat) (F : Lit → Int) (HS : St W M W [mp Try.prog 9 3 b m F, blk g [.slice A bs.length c, .int .i64 (f : Int), .int .i64 (n : Int), .map (some b)] tb, row A bs.length c (cz bs) 9 1]) (hq : RQS bs f n xs) (hl : xs.length ≤ 1048576) (hv : v.size ≤ 1099511627776) (hF : F (.string v.data.toList) = 0) (hm : m ≤ 1048576) : Calls Try.prog 78 #[.pointer (some ⟨g, 0, none⟩), .string v] W fun e W' => ∃ (m' : Nat) (F' : Lit → Int) (A' : Option Addr) (c' f' n' : Nat) (bs' : List ByteArray), e = .returned (.bool true) ∧ St W M W' [mp Try.prog 9 3 b m' F', blk g [.slice A' bs'.length c', .int .i64 (f' : Int), .int .i64 (n' : Int), .map (some b)] tb, row A' bs'.length c' (cz bs') 9 1] ∧ RQS bs' f' n' (xs ++ [v]) ∧ (F' (.string v.data.toList) = 1 ∧ ∀ x, x ≠ (.string v.data.toList) → F' x = F x) ∧ m' ≤ m + 2 := by
  refine calls_enter [.pointer (some ⟨g, 0, none⟩), .string v, undef, undef, undef, undef, undef, undef, undef, undef, undef, undef, undef, undef, undef, undef, undef, undef, undef, undef, undef, undef, undef, undef, undef, undef, undef, undef, undef, undef, undef, undef, undef, undef, undef, undef, undef, undef, undef, undef, undef] Try.func78 rfl (by kernel_rfl) ?_
  refine wp_seq ?_
  refine wp_region_lit ?_
  refine ql (.bool false) (by kernel_rfl) (by kernel_rfl) ?_
  refine wpList_nil ?_
  refine x_then ?_
  refine wp_seq ?_
  refine wp_seq ?_
  refine wp_region_lit ?_
  refine ql (.pointer (some ⟨g, 0, none⟩)) (by kernel_rfl) (by kernel_rfl) ?_
  refine ql (.bool false) (by kernel_rfl) (by kernel_rfl) ?_
  refine wpList_nil ?_
  refine x_then ?_
  refine wp_cond_false (by kernel_rfl) ?_
  refine wp_skip ?_
  refine x_then ?_
  refine wp_seq ?_
  refine wp_seq ?_
  refine wp_region_lit ?_
  refine ql (.pointer (some ⟨g, 0, none⟩)) (by kernel_rfl) (by kernel_rfl) ?_
  refine ql (.pointer (some ⟨g, 0, none⟩)) (by kernel_rfl) (by kernel_rfl) ?_
  refine ql (.pointer (some ⟨g, 3, none⟩)) (by kernel_rfl) (by kernel_rfl) ?_
  refine ql (.map (some b)) (by kernel_rfl) (R_load (p := ⟨g, 3, none⟩) (by kernel_rfl) (by kernel_rfl) (by kernel_rfl) (HS.cell (i := 1) (j := 3) rfl rfl)) ?_
  refine ql (.bool false) (by kernel_rfl) (by kernel_rfl) ?_
  refine wpList_nil ?_
  refine x_then ?_
  refine wp_cond_false (by kernel_rfl) ?_
  refine wp_skip ?_
  refine x_then ?_
  refine wp_seq ?_
  refine wp_seq ?_
  refine wp_region_lit ?_
  refine ql (.pointer (some ⟨g, 0, none⟩)) (by kernel_rfl) (by kernel_rfl) ?_
  refine ql (.pointer (some ⟨g, 0, none⟩)) (by kernel_rfl) (by kernel_rfl) ?_
  refine ql (.pointer (some ⟨g, 3, none⟩)) (by kernel_rfl) (by kernel_rfl) ?_
  refine ql (.map (some b)) (by kernel_rfl) (R_load (p := ⟨g, 3, none⟩) (by kernel_rfl) (by kernel_rfl) (by kernel_rfl) (HS.cell (i := 1) (j := 3) rfl rfl)) ?_
  refine ql (.string v) (by kernel_rfl) (by kernel_rfl) ?_
  refine ql (.int .i64 (F (.string v.data.toList))) (by kernel_rfl) (R_lookupM (b := b) (F := F) (key := .string v) (kl := (.string v.data.toList)) HS (i := 0) rfl (Maps.string_keyed Try.underlying9) Try.underlying114 Try.underlying3 (by kernel_rfl) (by kernel_rfl) (by kernel_rfl) (WideMaps.keyOf_string_mk Try.underlying9 (by unfold maxLen; omega))) ?_
  refine ql (.int .i64 ((F (.string v.data.toList)) + 1)) (by kernel_rfl) (R_int (by kernel_rfl) (w64 (by omega))) ?_
  refine kmu (key := .string v) (kl := (.string v.data.toList)) (u := (F (.string v.data.toList)) + 1) HS 0 rfl (Maps.string_keyed Try.underlying9) Try.underlying114 Try.underlying3 (by unfold maxLen; omega) (by kernel_rfl) (by kernel_rfl) (by kernel_rfl) (by kernel_rfl) (WalkArith.wf_i64 (by omega)) (WideMaps.keyOf_string_mk Try.underlying9 (by unfold maxLen; omega)) ?_
  intro W1 H_
  replace HS : St W M W1 [mp Try.prog 9 3 b (m + 1) (fset F (.string v.data.toList) ((F (.string v.data.toList)) + 1)), blk g [.slice A bs.length c, .int .i64 (f : Int), .int .i64 (n : Int), .map (some b)] tb, row A bs.length c (cz bs) 9 1] := H_
  clear H_
  refine wpList_nil ?_
  refine x_then ?_
  refine wp_seq ?_
  refine wp_region_lit ?_
  refine ql (.pointer (some ⟨g, 0, none⟩)) (by kernel_rfl) (by kernel_rfl) ?_
  refine ql (.pointer (some ⟨g, 0, none⟩)) (by kernel_rfl) (by kernel_rfl) ?_
  refine ql (.pointer (some ⟨g, 3, none⟩)) (by kernel_rfl) (by kernel_rfl) ?_
  refine ql (.map (some b)) (by kernel_rfl) (R_load (p := ⟨g, 3, none⟩) (by kernel_rfl) (by kernel_rfl) (by kernel_rfl) (HS.cell (i := 1) (j := 3) rfl rfl)) ?_
  refine ql (.string v) (by kernel_rfl) (by kernel_rfl) ?_
  refine ql (.int .i64 ((fset F (.string v.data.toList) ((F (.string v.data.toList)) + 1)) (.string v.data.toList))) (by kernel_rfl) (R_lookupM (b := b) (F := (fset F (.string v.data.toList) ((F (.string v.data.toList)) + 1))) (key := .string v) (kl := (.string v.data.toList)) HS (i := 0) rfl (Maps.string_keyed Try.underlying9) Try.underlying114 Try.underlying3 (by kernel_rfl) (by kernel_rfl) (by kernel_rfl) (WideMaps.keyOf_string_mk Try.underlying9 (by unfold maxLen; omega))) ?_
  refine ql (.bool false) (by kernel_rfl) (R_nbool (p := ((fset F (.string v.data.toList) ((F (.string v.data.toList)) + 1)) (.string v.data.toList)) > (1 : Int)) (by kernel_rfl) (by rw [fset_same]; omega)) ?_
  refine wpList_nil ?_
  refine x_then ?_
  refine wp_cond_false (by kernel_rfl) ?_
  refine wp_skip ?_
  refine x_then ?_
  refine wp_seq ?_
  refine wp_region_lit ?_
  refine ql (.pointer (some ⟨g, 0, none⟩)) (by kernel_rfl) (by kernel_rfl) ?_
  refine ql (.pointer (some ⟨g, 0, none⟩)) (by kernel_rfl) (by kernel_rfl) ?_
  refine ql (.pointer (some ⟨g, 0, none⟩)) (by kernel_rfl) (by kernel_rfl) ?_
  refine ql (.string v) (by kernel_rfl) (by kernel_rfl) ?_
  refine kl HS 1 [.string v] 9 1 (by kernel_rfl) (by kernel_rfl) rfl (by decide) ?_
  intro g2 W3 H_
  replace HS : St W M W3 [row (some ⟨g2, 0, none⟩) 1 1 (cz ([v])) 9 1, mp Try.prog 9 3 b (m + 1) (fset F (.string v.data.toList) ((F (.string v.data.toList)) + 1)), blk g [.slice A bs.length c, .int .i64 (f : Int), .int .i64 (n : Int), .map (some b)] tb, row A bs.length c (cz bs) 9 1] := H_.cast_ (by kernel_rfl)
  clear H_
  refine qc (f := 65) (args := #[.pointer (some ⟨g, 0, none⟩), .slice (some ⟨g2, 0, none⟩) 1 1]) (by kernel_rfl) (R_call #[.pointer (some ⟨g, 0, none⟩), .slice (some ⟨g2, 0, none⟩) 1 1] Try.func65 (by kernel_rfl) (by kernel_rfl) (by kernel_rfl)) ?_
  replace HS : St W M W3 [blk g [.slice A bs.length c, .int .i64 (f : Int), .int .i64 (n : Int), .map (some b)] tb, row A bs.length c (cz bs) 9 1, row (some ⟨g2, 0, none⟩) 1 1 (cz ([v])) 9 1, mp Try.prog 9 3 b (m + 1) (fset F (.string v.data.toList) ((F (.string v.data.toList)) + 1))] := HS.perm (perm_ [2, 3, 0, 1] (by kernel_rfl) rfl)
  refine (qpushS g tb [.map (some b)] _ _ c _ f n bs xs ([v]) _ _ (St.focus (F := [blk g [.slice A bs.length c, .int .i64 (f : Int), .int .i64 (n : Int), .map (some b)] tb, row A bs.length c (cz bs) 9 1, row (some ⟨g2, 0, none⟩) 1 1 (cz ([v])) 9 1]) HS) hq (by simp only [List.length_cons, List.length_nil]; omega)).mono ?_
  rintro e W4 ⟨A1, c1, f1, n1, bs1, rfl, H_, hq1⟩
  refine ⟨_, rfl, ?_⟩
  replace HS : St W M W4 [blk g [.slice A1 bs1.length c1, .int .i64 (f1 : Int), .int .i64 (n1 : Int), .map (some b)] tb, row A1 bs1.length c1 (cz bs1) 9 1, mp Try.prog 9 3 b (m + 1) (fset F (.string v.data.toList) ((F (.string v.data.toList)) + 1))] := HS.join (F := [blk g [.slice A bs.length c, .int .i64 (f : Int), .int .i64 (n : Int), .map (some b)] tb, row A bs.length c (cz bs) 9 1, row (some ⟨g2, 0, none⟩) 1 1 (cz ([v])) 9 1]) (G := [blk g [.slice A1 bs1.length c1, .int .i64 (f1 : Int), .int .i64 (n1 : Int), .map (some b)] tb, row A1 bs1.length c1 (cz bs1) 9 1]) H_
  clear H_
  refine wpList_nil ?_
  refine x_then ?_
  refine wp_seq ?_
  refine wp_region_lit ?_
  refine ql (.bool true) (by kernel_rfl) (by kernel_rfl) ?_
  refine wpList_nil ?_
  refine x_then ?_
  refine wp_ret ?_
  refine ret_ (.bool true) (by kernel_rfl) ?_
  replace HS : St W M W4 [mp Try.prog 9 3 b (m + 1) (fset F (.string v.data.toList) ((F (.string v.data.toList)) + 1)), blk g [.slice A1 bs1.length c1, .int .i64 (f1 : Int), .int .i64 (n1 : Int), .map (some b)] tb, row A1 bs1.length c1 (cz bs1) 9 1] := HS.perm (perm_ [2, 0, 1] (by kernel_rfl) rfl)
  have h1_ : F (.string v.data.toList) + 1 = 1 := by omega
  exact ⟨_, _, _, _, _, _, _, rfl, HS, hq1, ⟨by rw [fset_same]; omega, fun x hx => by rw [fset_other _ _ hx]⟩, by omega⟩

set_option maxRecDepth 100000 in
set_option maxHeartbeats 1000000 in
theorem wpushS_old (g tb : Nat) (A : Option Addr) (c f n : Nat) (bs xs : List ByteArray) (v : ByteArray) (W : World) (M : Nat → Prop) (b m : Nat) (F : Lit → Int) (HS : St W M W [mp Try.prog 9 3 b m F, blk g [.slice A bs.length c, .int .i64 (f : Int), .int .i64 (n : Int), .map (some b)] tb, row A bs.length c (cz bs) 9 1]) (hq : RQS bs f n xs) (hl : xs.length ≤ 1048576) (hv : v.size ≤ 1099511627776) (hF : F (.string v.data.toList) = 1) (hm : m ≤ 1048576) : Calls Try.prog 78 #[.pointer (some ⟨g, 0, none⟩), .string v] W fun e W' => ∃ (m' : Nat) (F' : Lit → Int), e = .returned (.bool false) ∧ St W M W' [mp Try.prog 9 3 b m' F', blk g [.slice A bs.length c, .int .i64 (f : Int), .int .i64 (n : Int), .map (some b)] tb, row A bs.length c (cz bs) 9 1] ∧ (F' (.string v.data.toList) = 1 ∧ ∀ x, x ≠ (.string v.data.toList) → F' x = F x) ∧ m' ≤ m + 2 := by
  refine calls_enter [.pointer (some ⟨g, 0, none⟩), .string v, undef, undef, undef, undef, undef, undef, undef, undef, undef, undef, undef, undef, undef, undef, undef, undef, undef, undef, undef, undef, undef, undef, undef, undef, undef, undef, undef, undef, undef, undef, undef, undef, undef, undef, undef, undef, undef, undef, undef] Try.func78 rfl (by kernel_rfl) ?_
  refine wp_seq ?_
  refine wp_region_lit ?_
  refine ql (.bool false) (by kernel_rfl) (by kernel_rfl) ?_
  refine wpList_nil ?_
  refine x_then ?_
  refine wp_seq ?_
  refine wp_seq ?_
  refine wp_region_lit ?_
  refine ql (.pointer (some ⟨g, 0, none⟩)) (by kernel_rfl) (by kernel_rfl) ?_
  refine ql (.bool false) (by kernel_rfl) (by kernel_rfl) ?_
  refine wpList_nil ?_
  refine x_then ?_
  refine wp_cond_false (by kernel_rfl) ?_
  refine wp_skip ?_
  refine x_then ?_
  refine wp_seq ?_
  refine wp_seq ?_
  refine wp_region_lit ?_
  refine ql (.pointer (some ⟨g, 0, none⟩)) (by kernel_rfl) (by kernel_rfl) ?_
  refine ql (.pointer (some ⟨g, 0, none⟩)) (by kernel_rfl) (by kernel_rfl) ?_
  refine ql (.pointer (some ⟨g, 3, none⟩)) (by kernel_rfl) (by kernel_rfl) ?_
  refine ql (.map (some b)) (by kernel_rfl) (R_load (p := ⟨g, 3, none⟩) (by kernel_rfl) (by kernel_rfl) (by kernel_rfl) (HS.cell (i := 1) (j := 3) rfl rfl)) ?_
  refine ql (.bool false) (by kernel_rfl) (by kernel_rfl) ?_
  refine wpList_nil ?_
  refine x_then ?_
  refine wp_cond_false (by kernel_rfl) ?_
  refine wp_skip ?_
  refine x_then ?_
  refine wp_seq ?_
  refine wp_seq ?_
  refine wp_region_lit ?_
  refine ql (.pointer (some ⟨g, 0, none⟩)) (by kernel_rfl) (by kernel_rfl) ?_
  refine ql (.pointer (some ⟨g, 0, none⟩)) (by kernel_rfl) (by kernel_rfl) ?_
  refine ql (.pointer (some ⟨g, 3, none⟩)) (by kernel_rfl) (by kernel_rfl) ?_
  refine ql (.map (some b)) (by kernel_rfl) (R_load (p := ⟨g, 3, none⟩) (by kernel_rfl) (by kernel_rfl) (by kernel_rfl) (HS.cell (i := 1) (j := 3) rfl rfl)) ?_
  refine ql (.string v) (by kernel_rfl) (by kernel_rfl) ?_
  refine ql (.int .i64 (F (.string v.data.toList))) (by kernel_rfl) (R_lookupM (b := b) (F := F) (key := .string v) (kl := (.string v.data.toList)) HS (i := 0) rfl (Maps.string_keyed Try.underlying9) Try.underlying114 Try.underlying3 (by kernel_rfl) (by kernel_rfl) (by kernel_rfl) (WideMaps.keyOf_string_mk Try.underlying9 (by unfold maxLen; omega))) ?_
  refine ql (.int .i64 ((F (.string v.data.toList)) + 1)) (by kernel_rfl) (R_int (by kernel_rfl) (w64 (by omega))) ?_
  refine kmu (key := .string v) (kl := (.string v.data.toList)) (u := (F (.string v.data.toList)) + 1) HS 0 rfl (Maps.string_keyed Try.underlying9) Try.underlying114 Try.underlying3 (by unfold maxLen; omega) (by kernel_rfl) (by kernel_rfl) (by kernel_rfl) (by kernel_rfl) (WalkArith.wf_i64 (by omega)) (WideMaps.keyOf_string_mk Try.underlying9 (by unfold maxLen; omega)) ?_
  intro W1 H_
  replace HS : St W M W1 [mp Try.prog 9 3 b (m + 1) (fset F (.string v.data.toList) ((F (.string v.data.toList)) + 1)), blk g [.slice A bs.length c, .int .i64 (f : Int), .int .i64 (n : Int), .map (some b)] tb, row A bs.length c (cz bs) 9 1] := H_
  clear H_
  refine wpList_nil ?_
  refine x_then ?_
  refine wp_seq ?_
  refine wp_region_lit ?_
  refine ql (.pointer (some ⟨g, 0, none⟩)) (by kernel_rfl) (by kernel_rfl) ?_
  refine ql (.pointer (some ⟨g, 0, none⟩)) (by kernel_rfl) (by kernel_rfl) ?_
  refine ql (.pointer (some ⟨g, 3, none⟩)) (by kernel_rfl) (by kernel_rfl) ?_
  refine ql (.map (some b)) (by kernel_rfl) (R_load (p := ⟨g, 3, none⟩) (by kernel_rfl) (by kernel_rfl) (by kernel_rfl) (HS.cell (i := 1) (j := 3) rfl rfl)) ?_
  refine ql (.string v) (by kernel_rfl) (by kernel_rfl) ?_
  refine ql (.int .i64 ((fset F (.string v.data.toList) ((F (.string v.data.toList)) + 1)) (.string v.data.toList))) (by kernel_rfl) (R_lookupM (b := b) (F := (fset F (.string v.data.toList) ((F (.string v.data.toList)) + 1))) (key := .string v) (kl := (.string v.data.toList)) HS (i := 0) rfl (Maps.string_keyed Try.underlying9) Try.underlying114 Try.underlying3 (by kernel_rfl) (by kernel_rfl) (by kernel_rfl) (WideMaps.keyOf_string_mk Try.underlying9 (by unfold maxLen; omega))) ?_
  refine ql (.bool true) (by kernel_rfl) (R_bool (p := ((fset F (.string v.data.toList) ((F (.string v.data.toList)) + 1)) (.string v.data.toList)) > (1 : Int)) (by kernel_rfl) (by rw [fset_same]; omega)) ?_
  refine wpList_nil ?_
  refine x_then ?_
  refine wp_cond_true (by kernel_rfl) ?_
  refine wp_seq ?_
  refine wp_region_lit ?_
  refine ql (.pointer (some ⟨g, 0, none⟩)) (by kernel_rfl) (by kernel_rfl) ?_
  refine ql (.pointer (some ⟨g, 0, none⟩)) (by kernel_rfl) (by kernel_rfl) ?_
  refine ql (.pointer (some ⟨g, 3, none⟩)) (by kernel_rfl) (by kernel_rfl) ?_
  refine ql (.map (some b)) (by kernel_rfl) (R_load (p := ⟨g, 3, none⟩) (by kernel_rfl) (by kernel_rfl) (by kernel_rfl) (HS.cell (i := 1) (j := 3) rfl rfl)) ?_
  refine ql (.string v) (by kernel_rfl) (by kernel_rfl) ?_
  refine kmu (key := .string v) (kl := (.string v.data.toList)) (u := 1) HS 0 rfl (Maps.string_keyed Try.underlying9) Try.underlying114 Try.underlying3 (by unfold maxLen; omega) (by kernel_rfl) (by kernel_rfl) (by kernel_rfl) (by kernel_rfl) (WalkArith.wf_i64 (by omega)) (WideMaps.keyOf_string_mk Try.underlying9 (by unfold maxLen; omega)) ?_
  intro W2 H_
  replace HS : St W M W2 [mp Try.prog 9 3 b ((m + 1) + 1) (fset (fset F (.string v.data.toList) ((F (.string v.data.toList)) + 1)) (.string v.data.toList) 1), blk g [.slice A bs.length c, .int .i64 (f : Int), .int .i64 (n : Int), .map (some b)] tb, row A bs.length c (cz bs) 9 1] := H_
  clear H_
  refine wpList_nil ?_
  refine x_then ?_
  refine wp_seq ?_
  refine wp_region_lit ?_
  refine ql (.bool false) (by kernel_rfl) (by kernel_rfl) ?_
  refine wpList_nil ?_
  refine x_then ?_
  refine wp_ret ?_
  refine x_thenR ?_
  refine ret_ (.bool false) (by kernel_rfl) ?_
  exact ⟨_, _, rfl, HS, ⟨fset_same _ _ _, fun x hx => by rw [fset_other _ _ hx, fset_other _ _ hx]⟩, by omega⟩

set_option maxRecDepth 100000 in
set_option maxHeartbeats 1000000 in
theorem wpopS_nil (g tb : Nat) (A : Option Addr) (c f n : Nat) (bs xs : List ByteArray) (W : World) (M : Nat → Prop) (mv : Value) (HS : St W M W [blk g [.slice A bs.length c, .int .i64 (f : Int), .int .i64 (n : Int), mv] tb, row A bs.length c (cz bs) 9 1]) (hq : RQS bs f n xs) (hx : xs = []) : Calls Try.prog 79 #[.pointer (some ⟨g, 0, none⟩)] W fun e W' => e = .returned (.tuple #[.string ByteArray.empty, .bool false]) ∧ St W M W' [blk g [.slice A bs.length c, .int .i64 (f : Int), .int .i64 (n : Int), mv] tb, row A bs.length c (cz bs) 9 1] := by
  refine calls_enter [.pointer (some ⟨g, 0, none⟩), undef, undef, undef, undef, undef, undef, undef, undef, undef, undef, undef, undef, undef, undef, undef, undef, undef, undef, undef, undef, undef, undef, undef, undef] Try.func79 rfl (by kernel_rfl) ?_
  refine wp_seq ?_
  refine wp_region_lit ?_
  refine ql (.string (⟨#[]⟩)) (by kernel_rfl) (by kernel_rfl) ?_
  refine ql (.bool false) (by kernel_rfl) (by kernel_rfl) ?_
  refine wpList_nil ?_
  refine x_then ?_
  refine wp_seq ?_
  refine wp_seq ?_
  refine wp_region_lit ?_
  refine ql (.pointer (some ⟨g, 0, none⟩)) (by kernel_rfl) (by kernel_rfl) ?_
  refine ql (.bool false) (by kernel_rfl) (by kernel_rfl) ?_
  refine wpList_nil ?_
  refine x_then ?_
  refine wp_cond_false (by kernel_rfl) ?_
  refine wp_skip ?_
  refine x_then ?_
  refine wp_seq ?_
  refine wp_region_lit ?_
  refine ql (.pointer (some ⟨g, 0, none⟩)) (by kernel_rfl) (by kernel_rfl) ?_
  refine ql (.pointer (some ⟨g, 0, none⟩)) (by kernel_rfl) (by kernel_rfl) ?_
  refine ql (.pointer (some ⟨g, 0, none⟩)) (by kernel_rfl) (by kernel_rfl) ?_
  refine qc (f := 68) (args := #[.pointer (some ⟨g, 0, none⟩)]) (by kernel_rfl) (R_call #[.pointer (some ⟨g, 0, none⟩)] Try.func68 (by kernel_rfl) (by kernel_rfl) (by kernel_rfl)) ?_
  refine (qpopS_nil g tb [mv] _ c f n bs xs _ _ (St.focus (F := [blk g [.slice A bs.length c, .int .i64 (f : Int), .int .i64 (n : Int), mv] tb, row A bs.length c (cz bs) 9 1]) HS) hq hx).mono ?_
  rintro e W1 ⟨rfl, H_⟩
  refine ⟨_, rfl, ?_⟩
  replace HS : St W M W1 [blk g [.slice A bs.length c, .int .i64 (f : Int), .int .i64 (n : Int), mv] tb, row A bs.length c (cz bs) 9 1] := HS.join (F := [blk g [.slice A bs.length c, .int .i64 (f : Int), .int .i64 (n : Int), mv] tb, row A bs.length c (cz bs) 9 1]) (G := [blk g [.slice A bs.length c, .int .i64 (f : Int), .int .i64 (n : Int), mv] tb, row A bs.length c (cz bs) 9 1]) H_
  clear H_
  refine ql (.tuple #[.string ByteArray.empty, .bool false]) (by kernel_rfl) (by kernel_rfl) ?_
  refine ql (.string ByteArray.empty) (by kernel_rfl) (by kernel_rfl) ?_
  refine ql (.bool false) (by kernel_rfl) (by kernel_rfl) ?_
  refine ql (.string ByteArray.empty) (by kernel_rfl) (by kernel_rfl) ?_
  refine ql (.bool false) (by kernel_rfl) (by kernel_rfl) ?_
  refine wpList_nil ?_
  refine x_then ?_
  refine wp_seq ?_
  refine wp_seq ?_
  refine wp_region_lit ?_
  refine ql (.bool false) (by kernel_rfl) (by kernel_rfl) ?_
  refine wpList_nil ?_
  refine x_then ?_
  refine wp_cond_false (by kernel_rfl) ?_
  refine wp_skip ?_
  refine x_then ?_
  refine wp_seq ?_
  refine wp_region_lit ?_
  refine ql (.string ByteArray.empty) (by kernel_rfl) (by kernel_rfl) ?_
  refine ql (.bool false) (by kernel_rfl) (by kernel_rfl) ?_
  refine ql (.string ByteArray.empty) (by kernel_rfl) (by kernel_rfl) ?_
  refine ql (.bool false) (by kernel_rfl) (by kernel_rfl) ?_
  refine wpList_nil ?_
  refine x_then ?_
  refine wp_ret ?_
  refine ret_ (.tuple #[.string ByteArray.empty, .bool false]) (by kernel_rfl) ?_
  exact ⟨rfl, HS⟩

set_option maxRecDepth 100000 in
set_option maxHeartbeats 1000000 in
theorem wpopS_some (g tb : Nat) (A : Option Addr) (c f n : Nat) (bs xs : List ByteArray) (W : World) (M : Nat → Prop) (b m : Nat) (F : Lit → Int) (HS : St W M W [mp Try.prog 9 3 b m F, blk g [.slice A bs.length c, .int .i64 (f : Int), .int .i64 (n : Int), .map (some b)] tb, row A bs.length c (cz bs) 9 1]) (hq : RQS bs f n xs) (hx : 0 < xs.length) (hv : (rdS xs 0).size ≤ 1099511627776) : Calls Try.prog 79 #[.pointer (some ⟨g, 0, none⟩)] W fun e W' => ∃ (F' : Lit → Int) (A' : Option Addr) (c' f' : Nat) (bs' : List ByteArray), e = .returned (.tuple #[.string (rdS xs 0), .bool true]) ∧ St W M W' [mp Try.prog 9 3 b m F', blk g [.slice A' bs'.length c', .int .i64 (f' : Int), .int .i64 ((n - 1 : Nat) : Int), .map (some b)] tb, row A' bs'.length c' (cz bs') 9 1] ∧ RQS bs' f' (n - 1) xs.tail ∧ (F' (.string (rdS xs 0).data.toList) = 0 ∧ ∀ x, x ≠ (.string (rdS xs 0).data.toList) → F' x = F x) := by
  refine calls_enter [.pointer (some ⟨g, 0, none⟩), undef, undef, undef, undef, undef, undef, undef, undef, undef, undef, undef, undef, undef, undef, undef, undef, undef, undef, undef, undef, undef, undef, undef, undef] Try.func79 rfl (by kernel_rfl) ?_
  refine wp_seq ?_
  refine wp_region_lit ?_
  refine ql (.string (⟨#[]⟩)) (by kernel_rfl) (by kernel_rfl) ?_
  refine ql (.bool false) (by kernel_rfl) (by kernel_rfl) ?_
  refine wpList_nil ?_
  refine x_then ?_
  refine wp_seq ?_
  refine wp_seq ?_
  refine wp_region_lit ?_
  refine ql (.pointer (some ⟨g, 0, none⟩)) (by kernel_rfl) (by kernel_rfl) ?_
  refine ql (.bool false) (by kernel_rfl) (by kernel_rfl) ?_
  refine wpList_nil ?_
  refine x_then ?_
  refine wp_cond_false (by kernel_rfl) ?_
  refine wp_skip ?_
  refine x_then ?_
  refine wp_seq ?_
  refine wp_region_lit ?_
  refine ql (.pointer (some ⟨g, 0, none⟩)) (by kernel_rfl) (by kernel_rfl) ?_
  refine ql (.pointer (some ⟨g, 0, none⟩)) (by kernel_rfl) (by kernel_rfl) ?_
  refine ql (.pointer (some ⟨g, 0, none⟩)) (by kernel_rfl) (by kernel_rfl) ?_
  refine qc (f := 68) (args := #[.pointer (some ⟨g, 0, none⟩)]) (by kernel_rfl) (R_call #[.pointer (some ⟨g, 0, none⟩)] Try.func68 (by kernel_rfl) (by kernel_rfl) (by kernel_rfl)) ?_
  replace HS : St W M W [blk g [.slice A bs.length c, .int .i64 (f : Int), .int .i64 (n : Int), .map (some b)] tb, row A bs.length c (cz bs) 9 1, mp Try.prog 9 3 b m F] := HS.perm (perm_ [1, 2, 0] (by kernel_rfl) rfl)
  refine (qpopS_some g tb [.map (some b)] _ c f n bs xs _ _ (St.focus (F := [blk g [.slice A bs.length c, .int .i64 (f : Int), .int .i64 (n : Int), .map (some b)] tb, row A bs.length c (cz bs) 9 1]) HS) hq hx).mono ?_
  rintro e W1 ⟨A1, c1, f1, bs1, rfl, H_, hq1⟩
  refine ⟨_, rfl, ?_⟩
  replace HS : St W M W1 [blk g [.slice A1 bs1.length c1, .int .i64 (f1 : Int), .int .i64 ((n - 1 : Nat) : Int), .map (some b)] tb, row A1 bs1.length c1 (cz bs1) 9 1, mp Try.prog 9 3 b m F] := HS.join (F := [blk g [.slice A bs.length c, .int .i64 (f : Int), .int .i64 (n : Int), .map (some b)] tb, row A bs.length c (cz bs) 9 1]) (G := [blk g [.slice A1 bs1.length c1, .int .i64 (f1 : Int), .int .i64 ((n - 1 : Nat) : Int), .map (some b)] tb, row A1 bs1.length c1 (cz bs1) 9 1]) H_
  clear H_
  refine ql (.tuple #[.string (rdS xs 0), .bool true]) (by kernel_rfl) (by kernel_rfl) ?_
  refine ql (.string (rdS xs 0)) (by kernel_rfl) (by kernel_rfl) ?_
  refine ql (.bool true) (by kernel_rfl) (by kernel_rfl) ?_
  refine ql (.string (rdS xs 0)) (by kernel_rfl) (by kernel_rfl) ?_
  refine ql (.bool true) (by kernel_rfl) (by kernel_rfl) ?_
  refine wpList_nil ?_
  refine x_then ?_
  refine wp_seq ?_
  refine wp_seq ?_
  refine wp_region_lit ?_
  refine ql (.bool true) (by kernel_rfl) (by kernel_rfl) ?_
  refine wpList_nil ?_
  refine x_then ?_
  refine wp_cond_true (by kernel_rfl) ?_
  refine wp_region_lit ?_
  refine ql (.pointer (some ⟨g, 0, none⟩)) (by kernel_rfl) (by kernel_rfl) ?_
  refine ql (.pointer (some ⟨g, 0, none⟩)) (by kernel_rfl) (by kernel_rfl) ?_
  refine ql (.pointer (some ⟨g, 3, none⟩)) (by kernel_rfl) (by kernel_rfl) ?_
  refine ql (.map (some b)) (by kernel_rfl) (R_load (p := ⟨g, 3, none⟩) (by kernel_rfl) (by kernel_rfl) (by kernel_rfl) (HS.cell (i := 0) (j := 3) rfl rfl)) ?_
  refine ql (.string (rdS xs 0)) (by kernel_rfl) (by kernel_rfl) ?_
  refine kmd (key := .string (rdS xs 0)) (kl := (.string (rdS xs 0).data.toList)) HS 2 rfl (Maps.string_keyed Try.underlying9) Try.underlying114 (by kernel_rfl) (by kernel_rfl) (by kernel_rfl) (WideMaps.keyOf_string_mk Try.underlying9 (by unfold maxLen; omega)) ?_
  intro W2 H_
  replace HS : St W M W2 [blk g [.slice A1 bs1.length c1, .int .i64 (f1 : Int), .int .i64 ((n - 1 : Nat) : Int), .map (some b)] tb, row A1 bs1.length c1 (cz bs1) 9 1, mp Try.prog 9 3 b m (fset F (.string (rdS xs 0).data.toList) 0)] := H_
  clear H_
  refine wpList_nil ?_
  refine x_then ?_
  refine wp_seq ?_
  refine wp_region_lit ?_
  refine ql (.string (rdS xs 0)) (by kernel_rfl) (by kernel_rfl) ?_
  refine ql (.bool true) (by kernel_rfl) (by kernel_rfl) ?_
  refine ql (.string (rdS xs 0)) (by kernel_rfl) (by kernel_rfl) ?_
  refine ql (.bool true) (by kernel_rfl) (by kernel_rfl) ?_
  refine wpList_nil ?_
  refine x_then ?_
  refine wp_ret ?_
  refine ret_ (.tuple #[.string (rdS xs 0), .bool true]) (by kernel_rfl) ?_
  replace HS : St W M W2 [mp Try.prog 9 3 b m (fset F (.string (rdS xs 0).data.toList) 0), blk g [.slice A1 bs1.length c1, .int .i64 (f1 : Int), .int .i64 ((n - 1 : Nat) : Int), .map (some b)] tb, row A1 bs1.length c1 (cz bs1) 9 1] := HS.perm (perm_ [2, 0, 1] (by kernel_rfl) rfl)
  exact ⟨_, _, _, _, _, rfl, HS, hq1, fset_same _ _ _, fun x hx => by rw [fset_other _ _ hx]⟩

set_option maxRecDepth 100000 in
set_option maxHeartbeats 1000000 in
theorem wlenS (g n : Nat) (W : World) (hc : W.cell? ⟨g, 2, none⟩ = some (.int .i64 (n : Int))) : Calls Try.prog 80 #[.pointer (some ⟨g, 0, none⟩)] W fun e W' => e = .returned (.int .i64 (n : Int)) ∧ St W (owns []) W' [] := by
  have HS : St W (owns []) W [] := St.start W _
  refine calls_enter [.pointer (some ⟨g, 0, none⟩), undef, undef, undef, undef, undef, undef, undef, undef] Try.func80 rfl (by kernel_rfl) ?_
  refine wp_seq ?_
  refine wp_region_lit ?_
  refine ql (.int .i64 0) (by kernel_rfl) (by kernel_rfl) ?_
  refine wpList_nil ?_
  refine x_then ?_
  refine wp_seq ?_
  refine wp_seq ?_
  refine wp_region_lit ?_
  refine ql (.pointer (some ⟨g, 0, none⟩)) (by kernel_rfl) (by kernel_rfl) ?_
  refine ql (.bool false) (by kernel_rfl) (by kernel_rfl) ?_
  refine wpList_nil ?_
  refine x_then ?_
  refine wp_cond_false (by kernel_rfl) ?_
  refine wp_skip ?_
  refine x_then ?_
  refine wp_seq ?_
  refine wp_region_lit ?_
  refine ql (.pointer (some ⟨g, 0, none⟩)) (by kernel_rfl) (by kernel_rfl) ?_
  refine ql (.pointer (some ⟨g, 0, none⟩)) (by kernel_rfl) (by kernel_rfl) ?_
  refine ql (.pointer (some ⟨g, 0, none⟩)) (by kernel_rfl) (by kernel_rfl) ?_
  refine qc (f := 70) (args := #[.pointer (some ⟨g, 0, none⟩)]) (by kernel_rfl) (R_call #[.pointer (some ⟨g, 0, none⟩)] Try.func70 (by kernel_rfl) (by kernel_rfl) (by kernel_rfl)) ?_
  refine (qlenS g n _ (HS.old0 hc)).mono ?_
  rintro e W1 ⟨rfl, H_⟩
  refine ⟨_, rfl, ?_⟩
  replace HS : St W (owns []) W1 [] := HS.join (F := []) (G := []) H_
  clear H_
  refine ql (.int .i64 (n : Int)) (by kernel_rfl) (by kernel_rfl) ?_
  refine wpList_nil ?_
  refine x_then ?_
  refine wp_ret ?_
  refine ret_ (.int .i64 (n : Int)) (by kernel_rfl) ?_
  exact ⟨rfl, HS⟩

end Go.Proofs.Ytnabbhcagonlkaa.GStackTurns
