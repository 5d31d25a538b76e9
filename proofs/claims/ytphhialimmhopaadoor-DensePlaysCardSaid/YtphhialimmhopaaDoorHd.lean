/- For every two sizes, list of acts and number, two sets of chapter 3 under the acts have the members that the document says: DensePlays returns true, and its arguments read as they did. This text: the walks through the functions that the statement reaches. No condition but those in the statement. -/
import Derived.WalkKit
import Derived.StillTailTactics
import Derived.Deep.LoopGhost
import Derived.KernelRfl
import Derived.Deep.OwnRows
import Derived.Laws.OwnMore
import Derived.Laws.MakeOwn
import Derived.Maps.AppendAt
import Derived.OrdersHeld
import Derived.Test.YtphhialimmhopaaDoorProg
import Derived.Test.YtphhialimmhopaaDoorHa
import Derived.Test.YtphhialimmhopaaDoorHb
import Derived.Test.YtphhialimmhopaaDoorHc
namespace Go.Proofs.YtphhialimmhopaaDoor
open Go Go.RowKit Go.Shelf Go.Proofs.YtphhialimmhopaaDoor.Hp
attribute [local irreducible] wpStill wpList Code.wp TA
set_option linter.unusedVariables false
set_option linter.unusedSimpArgs false

theorem dsame (g c : Nat) (A : Option Addr) (ws : List Int) (n : Int) (h c2 : Nat) (B : Option Addr) (vs : List Int) (m : Int) (L M : List Int) (W : World) (hz0 : W.cell? ⟨g, 0, none⟩ = some (.slice A ws.length c)) (hz1 : W.cell? ⟨g, 1, none⟩ = some (.int .i64 n)) (hr : Rd W A (ci .u64 ws)) (hR : Rep ws n L) (hn : n ≤ 1048576) (hy0 : W.cell? ⟨h, 0, none⟩ = some (.slice B vs.length c2)) (hy1 : W.cell? ⟨h, 1, none⟩ = some (.int .i64 m)) (hs : Rd W B (ci .u64 vs)) (hM : Rep vs m M) (hm : m ≤ 1048576) : Calls Tryd.prog 20 #[.pointer (some ⟨g, 0, none⟩), .pointer (some ⟨h, 0, none⟩)] W fun e W' => e = .returned (.bool (decide (n = m ∧ L = M))) ∧ St W (owns []) W' [] := by
  by_cases hne : n = m
  · exact dsame_same g c A ws n h c2 B vs m L M W hz0 hz1 hr hR hn hy0 hy1 hs hM hm hne
  · exact dsame_differ g c A ws n h c2 B vs m L M W hz0 hz1 hr hR hn hy0 hy1 hs hM hm hne

set_option maxRecDepth 100000 in
set_option maxHeartbeats 1000000 in
theorem lDensePlays (n m i : Int) (Al : Option Addr) (cl : Nat) (l : List (Int × Int)) (W : World) (hra : Rd W Al (cf actD l)) (hT : TabAt64 W) : Calls Tryd.prog 4 #[.int .i64 n, .int .i64 m, .slice Al l.length cl, .int .i64 i] W fun e W' => e = .returned (.bool true) ∧ St W (owns []) W' [] := by
  have HS : St W (owns []) W [] := St.start W _
  refine calls_enter ((.int .i64 n) :: (.int .i64 m) :: (.slice Al l.length cl) :: (.int .i64 i) :: undef :: undef :: undef :: undef :: undef :: undef :: undef :: undef :: undef :: undef :: undef :: undef :: undef :: undef :: undef :: undef :: undef :: undef :: undef :: undef :: undef :: undef :: undef :: undef :: undef :: undef :: undef :: undef :: undef :: undef :: undef :: undef :: undef :: undef :: undef :: undef :: undef :: undef :: undef :: undef :: undef :: undef :: undef :: undef :: undef :: undef :: undef :: undef :: undef :: undef :: undef :: undef :: undef :: undef :: undef :: undef :: undef :: undef :: undef :: undef :: undef :: undef :: undef :: undef :: undef :: undef :: undef :: undef :: undef :: undef :: undef :: undef :: undef :: undef :: undef :: undef :: undef :: undef :: undef :: undef :: undef :: undef :: undef :: undef :: undef :: undef :: undef :: undef :: undef :: undef :: undef :: undef :: undef :: undef :: undef :: undef :: undef :: undef :: undef :: undef :: undef :: undef :: undef :: undef :: undef :: undef :: undef :: undef :: undef :: undef :: undef :: undef :: undef :: undef :: undef :: undef :: undef :: undef :: undef :: undef :: undef :: undef :: undef :: undef :: undef :: undef :: undef :: undef :: undef :: undef :: undef :: undef :: undef :: undef :: undef :: undef :: undef :: undef :: undef :: undef :: undef :: undef :: undef :: undef :: undef :: undef :: undef :: undef :: undef :: undef :: undef :: undef :: undef :: undef :: undef :: undef :: undef :: []) Tryd.func4 rfl (by kernel_rfl) ?_
  refine wp_seq ?_
  refine wp_region_lit ?_
  refine ql (.bool false) (by kernel_rfl) (by kernel_rfl) ?_
  refine wpList_nil ?_
  refine x_then ?_
  refine wp_seq ?_
  refine wp_seq ?_
  refine wp_region_lit ?_
  refine ql (.slice Al l.length cl) (by kernel_rfl) (by kernel_rfl) ?_
  refine ql (.int .i64 (l.length : Int)) (by kernel_rfl) (by kernel_rfl) ?_
  by_cases hc1 : (l.length : Int) > (30 : Int)
  · skip
    refine ql (.bool true) (by kernel_rfl) (R_bool (p := (l.length : Int) > (30 : Int)) (by kernel_rfl) (hc1)) ?_
    refine ql (.bool true) (by kernel_rfl) (by kernel_rfl) ?_
    refine qln (by kernel_rfl) ?_
    refine qln (by kernel_rfl) ?_
    refine qln (by kernel_rfl) ?_
    refine qln (by kernel_rfl) ?_
    refine qln (by kernel_rfl) ?_
    refine qln (by kernel_rfl) ?_
    refine ql (.bool true) (by kernel_rfl) (by kernel_rfl) ?_
    refine ql (.bool true) (by kernel_rfl) (by kernel_rfl) ?_
    refine qln (by kernel_rfl) ?_
    refine qln (by kernel_rfl) ?_
    refine ql (.bool true) (by kernel_rfl) (by kernel_rfl) ?_
    refine ql (.bool true) (by kernel_rfl) (by kernel_rfl) ?_
    refine qln (by kernel_rfl) ?_
    refine qln (by kernel_rfl) ?_
    refine ql (.bool true) (by kernel_rfl) (by kernel_rfl) ?_
    refine wpList_nil ?_
    refine x_then ?_
    refine wp_cond_true (by kernel_rfl) ?_
    refine wp_seq ?_
    refine wp_region_lit ?_
    refine qc (f := 6) (args := #[]) (by kernel_rfl) (R_call #[] Tryd.func6 (by kernel_rfl) (by kernel_rfl) (by kernel_rfl)) ?_
    refine (dawake _ (hT.old0 HS)).mono ?_
    rintro e W2 ⟨rfl, H_⟩
    refine ⟨_, rfl, ?_⟩
    replace HS : St W (owns []) W2 [] := HS.join (F := []) (G := []) H_
    clear H_
    refine ql (.bool true) (by kernel_rfl) (by kernel_rfl) ?_
    refine wpList_nil ?_
    refine x_then ?_
    refine wp_ret ?_
    refine x_thenR ?_
    refine ret_ (.bool true) (by kernel_rfl) ?_
    exact ⟨rfl, HS⟩
  · skip
    refine ql (.bool false) (by kernel_rfl) (R_nbool (p := (l.length : Int) > (30 : Int)) (by kernel_rfl) (hc1)) ?_
    refine ql (.bool false) (by kernel_rfl) (by kernel_rfl) ?_
    refine ql (.int .i64 n) (by kernel_rfl) (by kernel_rfl) ?_
    by_cases hc3 : n > (300 : Int)
    · skip
      refine ql (.bool true) (by kernel_rfl) (R_bool (p := n > (300 : Int)) (by kernel_rfl) (hc3)) ?_
      refine ql (.bool true) (by kernel_rfl) (by kernel_rfl) ?_
      refine ql (.int .i64 n) (by kernel_rfl) (by kernel_rfl) ?_
      by_cases hc4 : n ≤ (1048576 : Int)
      · skip
        refine ql (.bool true) (by kernel_rfl) (R_bool (p := n ≤ (1048576 : Int)) (by kernel_rfl) (hc4)) ?_
        refine ql (.bool true) (by kernel_rfl) (by kernel_rfl) ?_
        refine ql (.bool true) (by kernel_rfl) (by kernel_rfl) ?_
        refine ql (.bool true) (by kernel_rfl) (by kernel_rfl) ?_
        refine qln (by kernel_rfl) ?_
        refine qln (by kernel_rfl) ?_
        refine ql (.bool true) (by kernel_rfl) (by kernel_rfl) ?_
        refine ql (.bool true) (by kernel_rfl) (by kernel_rfl) ?_
        refine qln (by kernel_rfl) ?_
        refine qln (by kernel_rfl) ?_
        refine ql (.bool true) (by kernel_rfl) (by kernel_rfl) ?_
        refine wpList_nil ?_
        refine x_then ?_
        refine wp_cond_true (by kernel_rfl) ?_
        refine wp_seq ?_
        refine wp_region_lit ?_
        refine qc (f := 6) (args := #[]) (by kernel_rfl) (R_call #[] Tryd.func6 (by kernel_rfl) (by kernel_rfl) (by kernel_rfl)) ?_
        refine (dawake _ (hT.old0 HS)).mono ?_
        rintro e W5 ⟨rfl, H_⟩
        refine ⟨_, rfl, ?_⟩
        replace HS : St W (owns []) W5 [] := HS.join (F := []) (G := []) H_
        clear H_
        refine ql (.bool true) (by kernel_rfl) (by kernel_rfl) ?_
        refine wpList_nil ?_
        refine x_then ?_
        refine wp_ret ?_
        refine x_thenR ?_
        refine ret_ (.bool true) (by kernel_rfl) ?_
        exact ⟨rfl, HS⟩
      · skip
        refine ql (.bool false) (by kernel_rfl) (R_nbool (p := n ≤ (1048576 : Int)) (by kernel_rfl) (hc4)) ?_
        refine ql (.bool false) (by kernel_rfl) (by kernel_rfl) ?_
        refine ql (.bool false) (by kernel_rfl) (by kernel_rfl) ?_
        refine ql (.bool false) (by kernel_rfl) (by kernel_rfl) ?_
        refine ql (.int .i64 m) (by kernel_rfl) (by kernel_rfl) ?_
        by_cases hc6 : m < (0 : Int)
        · skip
          refine ql (.bool true) (by kernel_rfl) (R_bool (p := m < (0 : Int)) (by kernel_rfl) (hc6)) ?_
          refine ql (.bool true) (by kernel_rfl) (by kernel_rfl) ?_
          refine ql (.bool true) (by kernel_rfl) (by kernel_rfl) ?_
          refine qln (by kernel_rfl) ?_
          refine qln (by kernel_rfl) ?_
          refine ql (.bool true) (by kernel_rfl) (by kernel_rfl) ?_
          refine wpList_nil ?_
          refine x_then ?_
          refine wp_cond_true (by kernel_rfl) ?_
          refine wp_seq ?_
          refine wp_region_lit ?_
          refine qc (f := 6) (args := #[]) (by kernel_rfl) (R_call #[] Tryd.func6 (by kernel_rfl) (by kernel_rfl) (by kernel_rfl)) ?_
          refine (dawake _ (hT.old0 HS)).mono ?_
          rintro e W7 ⟨rfl, H_⟩
          refine ⟨_, rfl, ?_⟩
          replace HS : St W (owns []) W7 [] := HS.join (F := []) (G := []) H_
          clear H_
          refine ql (.bool true) (by kernel_rfl) (by kernel_rfl) ?_
          refine wpList_nil ?_
          refine x_then ?_
          refine wp_ret ?_
          refine x_thenR ?_
          refine ret_ (.bool true) (by kernel_rfl) ?_
          exact ⟨rfl, HS⟩
        · skip
          refine ql (.bool false) (by kernel_rfl) (R_nbool (p := m < (0 : Int)) (by kernel_rfl) (hc6)) ?_
          refine ql (.bool false) (by kernel_rfl) (by kernel_rfl) ?_
          refine ql (.bool false) (by kernel_rfl) (by kernel_rfl) ?_
          refine ql (.int .i64 m) (by kernel_rfl) (by kernel_rfl) ?_
          by_cases hc8 : m > (300 : Int)
          · skip
            refine ql (.bool true) (by kernel_rfl) (R_bool (p := m > (300 : Int)) (by kernel_rfl) (hc8)) ?_
            refine ql (.bool true) (by kernel_rfl) (by kernel_rfl) ?_
            refine wpList_nil ?_
            refine x_then ?_
            refine wp_cond_true (by kernel_rfl) ?_
            refine wp_seq ?_
            refine wp_region_lit ?_
            refine qc (f := 6) (args := #[]) (by kernel_rfl) (R_call #[] Tryd.func6 (by kernel_rfl) (by kernel_rfl) (by kernel_rfl)) ?_
            refine (dawake _ (hT.old0 HS)).mono ?_
            rintro e W9 ⟨rfl, H_⟩
            refine ⟨_, rfl, ?_⟩
            replace HS : St W (owns []) W9 [] := HS.join (F := []) (G := []) H_
            clear H_
            refine ql (.bool true) (by kernel_rfl) (by kernel_rfl) ?_
            refine wpList_nil ?_
            refine x_then ?_
            refine wp_ret ?_
            refine x_thenR ?_
            refine ret_ (.bool true) (by kernel_rfl) ?_
            exact ⟨rfl, HS⟩
          · skip
            refine ql (.bool false) (by kernel_rfl) (R_nbool (p := m > (300 : Int)) (by kernel_rfl) (hc8)) ?_
            refine ql (.bool false) (by kernel_rfl) (by kernel_rfl) ?_
            refine wpList_nil ?_
            refine x_then ?_
            refine wp_cond_false (by kernel_rfl) ?_
            refine wp_skip ?_
            refine x_then ?_
            refine wp_seq ?_
            refine wp_region_lit ?_
            refine ql (.int .i64 n) (by kernel_rfl) (by kernel_rfl) ?_
            refine qc (f := 7) (args := #[.int .i64 n]) (by kernel_rfl) (R_call #[.int .i64 n] Tryd.func7 (by kernel_rfl) (by kernel_rfl) (by kernel_rfl)) ?_
            refine (dnew_over n _ (by omega)).mono ?_
            rintro e W10 ⟨rfl, H_⟩
            refine ⟨_, rfl, ?_⟩
            replace HS : St W (owns []) W10 [] := HS.join (F := []) (G := []) H_
            clear H_
            refine ql (.tuple #[.pointer none, .int .i64 5]) (by kernel_rfl) (by kernel_rfl) ?_
            refine ql (.pointer none) (by kernel_rfl) (by kernel_rfl) ?_
            refine ql (.int .i64 5) (by kernel_rfl) (by kernel_rfl) ?_
            refine ql (.pointer none) (by kernel_rfl) (by kernel_rfl) ?_
            refine ql (.int .i64 5) (by kernel_rfl) (by kernel_rfl) ?_
            refine wpList_nil ?_
            refine x_then ?_
            refine wp_seq ?_
            refine wp_region_lit ?_
            refine ql (.int .i64 m) (by kernel_rfl) (by kernel_rfl) ?_
            refine qc (f := 7) (args := #[.int .i64 m]) (by kernel_rfl) (R_call #[.int .i64 m] Tryd.func7 (by kernel_rfl) (by kernel_rfl) (by kernel_rfl)) ?_
            refine (dnew_ok m _ (by omega) (by omega)).mono ?_
            rintro e W16 ⟨g11, a12, c13, ws14, rfl, H_, hR15⟩
            refine ⟨_, rfl, ?_⟩
            replace HS : St W (owns []) W16 [blk g11 [.slice (some ⟨a12, 0, none⟩) ws14.length c13, .int .i64 m] 53, row (some ⟨a12, 0, none⟩) ws14.length c13 (ci .u64 ws14) 54 1] := HS.join (F := []) (G := [blk g11 [.slice (some ⟨a12, 0, none⟩) ws14.length c13, .int .i64 m] 53, row (some ⟨a12, 0, none⟩) ws14.length c13 (ci .u64 ws14) 54 1]) H_
            clear H_
            refine ql (.tuple #[.pointer (some ⟨g11, 0, none⟩), .int .i64 0]) (by kernel_rfl) (by kernel_rfl) ?_
            refine ql (.pointer (some ⟨g11, 0, none⟩)) (by kernel_rfl) (by kernel_rfl) ?_
            refine ql (.int .i64 0) (by kernel_rfl) (by kernel_rfl) ?_
            refine ql (.pointer (some ⟨g11, 0, none⟩)) (by kernel_rfl) (by kernel_rfl) ?_
            refine ql (.int .i64 0) (by kernel_rfl) (by kernel_rfl) ?_
            refine wpList_nil ?_
            refine x_then ?_
            refine wp_seq ?_
            refine wp_seq ?_
            refine wp_region_lit ?_
            refine ql (.int .i64 n) (by kernel_rfl) (by kernel_rfl) ?_
            refine ql (.bool false) (by kernel_rfl) (R_nbool (p := n < (0 : Int)) (by kernel_rfl) (by omega)) ?_
            refine wpList_nil ?_
            refine x_then ?_
            refine wp_cond_false (by kernel_rfl) ?_
            refine wp_skip ?_
            refine x_then ?_
            refine wp_seq ?_
            refine wp_seq ?_
            refine wp_region_lit ?_
            refine ql (.int .i64 n) (by kernel_rfl) (by kernel_rfl) ?_
            refine ql (.bool true) (by kernel_rfl) (R_bool (p := n > (1048576 : Int)) (by kernel_rfl) (by omega)) ?_
            refine wpList_nil ?_
            refine x_then ?_
            refine wp_cond_true (by kernel_rfl) ?_
            refine wp_seq ?_
            refine wp_region_lit ?_
            refine ql (.pointer none) (by kernel_rfl) (by kernel_rfl) ?_
            refine ql (.bool true) (by kernel_rfl) (by kernel_rfl) ?_
            refine ql (.bool true) (by kernel_rfl) (by kernel_rfl) ?_
            refine ql (.int .i64 5) (by kernel_rfl) (by kernel_rfl) ?_
            refine ql (.bool true) (by kernel_rfl) (R_beq (b := ((5 : Int) == 5)) (by kernel_rfl) (by decide)) ?_
            refine ql (.bool true) (by kernel_rfl) (by kernel_rfl) ?_
            refine ql (.bool true) (by kernel_rfl) (by kernel_rfl) ?_
            refine qc (f := 6) (args := #[]) (by kernel_rfl) (R_call #[] Tryd.func6 (by kernel_rfl) (by kernel_rfl) (by kernel_rfl)) ?_
            refine (dawake _ (hT.old0 HS)).mono ?_
            rintro e W17 ⟨rfl, H_⟩
            refine ⟨_, rfl, ?_⟩
            replace HS : St W (owns []) W17 [blk g11 [.slice (some ⟨a12, 0, none⟩) ws14.length c13, .int .i64 m] 53, row (some ⟨a12, 0, none⟩) ws14.length c13 (ci .u64 ws14) 54 1] := HS.join (F := []) (G := []) H_
            clear H_
            refine ql (.bool true) (by kernel_rfl) (by kernel_rfl) ?_
            refine ql (.bool true) (by kernel_rfl) (by kernel_rfl) ?_
            refine wpList_nil ?_
            refine x_then ?_
            refine wp_ret ?_
            refine x_thenR ?_
            refine ret_ (.bool true) (by kernel_rfl) ?_
            replace HS := HS.drop1
            replace HS := HS.drop1
            exact ⟨rfl, HS⟩
    · skip
      refine ql (.bool false) (by kernel_rfl) (R_nbool (p := n > (300 : Int)) (by kernel_rfl) (hc3)) ?_
      refine ql (.bool false) (by kernel_rfl) (by kernel_rfl) ?_
      refine qln (by kernel_rfl) ?_
      refine qln (by kernel_rfl) ?_
      refine ql (.bool false) (by kernel_rfl) (by kernel_rfl) ?_
      refine ql (.bool false) (by kernel_rfl) (by kernel_rfl) ?_
      refine ql (.bool false) (by kernel_rfl) (by kernel_rfl) ?_
      refine ql (.int .i64 m) (by kernel_rfl) (by kernel_rfl) ?_
      by_cases hc18 : m < (0 : Int)
      · skip
        refine ql (.bool true) (by kernel_rfl) (R_bool (p := m < (0 : Int)) (by kernel_rfl) (hc18)) ?_
        refine ql (.bool true) (by kernel_rfl) (by kernel_rfl) ?_
        refine ql (.bool true) (by kernel_rfl) (by kernel_rfl) ?_
        refine qln (by kernel_rfl) ?_
        refine qln (by kernel_rfl) ?_
        refine ql (.bool true) (by kernel_rfl) (by kernel_rfl) ?_
        refine wpList_nil ?_
        refine x_then ?_
        refine wp_cond_true (by kernel_rfl) ?_
        refine wp_seq ?_
        refine wp_region_lit ?_
        refine qc (f := 6) (args := #[]) (by kernel_rfl) (R_call #[] Tryd.func6 (by kernel_rfl) (by kernel_rfl) (by kernel_rfl)) ?_
        refine (dawake _ (hT.old0 HS)).mono ?_
        rintro e W19 ⟨rfl, H_⟩
        refine ⟨_, rfl, ?_⟩
        replace HS : St W (owns []) W19 [] := HS.join (F := []) (G := []) H_
        clear H_
        refine ql (.bool true) (by kernel_rfl) (by kernel_rfl) ?_
        refine wpList_nil ?_
        refine x_then ?_
        refine wp_ret ?_
        refine x_thenR ?_
        refine ret_ (.bool true) (by kernel_rfl) ?_
        exact ⟨rfl, HS⟩
      · skip
        refine ql (.bool false) (by kernel_rfl) (R_nbool (p := m < (0 : Int)) (by kernel_rfl) (hc18)) ?_
        refine ql (.bool false) (by kernel_rfl) (by kernel_rfl) ?_
        refine ql (.bool false) (by kernel_rfl) (by kernel_rfl) ?_
        refine ql (.int .i64 m) (by kernel_rfl) (by kernel_rfl) ?_
        by_cases hc20 : m > (300 : Int)
        · skip
          refine ql (.bool true) (by kernel_rfl) (R_bool (p := m > (300 : Int)) (by kernel_rfl) (hc20)) ?_
          refine ql (.bool true) (by kernel_rfl) (by kernel_rfl) ?_
          refine wpList_nil ?_
          refine x_then ?_
          refine wp_cond_true (by kernel_rfl) ?_
          refine wp_seq ?_
          refine wp_region_lit ?_
          refine qc (f := 6) (args := #[]) (by kernel_rfl) (R_call #[] Tryd.func6 (by kernel_rfl) (by kernel_rfl) (by kernel_rfl)) ?_
          refine (dawake _ (hT.old0 HS)).mono ?_
          rintro e W21 ⟨rfl, H_⟩
          refine ⟨_, rfl, ?_⟩
          replace HS : St W (owns []) W21 [] := HS.join (F := []) (G := []) H_
          clear H_
          refine ql (.bool true) (by kernel_rfl) (by kernel_rfl) ?_
          refine wpList_nil ?_
          refine x_then ?_
          refine wp_ret ?_
          refine x_thenR ?_
          refine ret_ (.bool true) (by kernel_rfl) ?_
          exact ⟨rfl, HS⟩
        · skip
          refine ql (.bool false) (by kernel_rfl) (R_nbool (p := m > (300 : Int)) (by kernel_rfl) (hc20)) ?_
          refine ql (.bool false) (by kernel_rfl) (by kernel_rfl) ?_
          refine wpList_nil ?_
          refine x_then ?_
          refine wp_cond_false (by kernel_rfl) ?_
          refine wp_skip ?_
          refine x_then ?_
          refine wp_seq ?_
          refine wp_region_lit ?_
          refine ql (.int .i64 n) (by kernel_rfl) (by kernel_rfl) ?_
          refine qc (f := 7) (args := #[.int .i64 n]) (by kernel_rfl) (R_call #[.int .i64 n] Tryd.func7 (by kernel_rfl) (by kernel_rfl) (by kernel_rfl)) ?_
          by_cases hv9 : n < 0
          · skip
            refine (dnew_arg n _ hv9).mono ?_
            rintro e W22 ⟨rfl, H_⟩
            refine ⟨_, rfl, ?_⟩
            replace HS : St W (owns []) W22 [] := HS.join (F := []) (G := []) H_
            clear H_
            refine ql (.tuple #[.pointer none, .int .i64 2]) (by kernel_rfl) (by kernel_rfl) ?_
            refine ql (.pointer none) (by kernel_rfl) (by kernel_rfl) ?_
            refine ql (.int .i64 2) (by kernel_rfl) (by kernel_rfl) ?_
            refine ql (.pointer none) (by kernel_rfl) (by kernel_rfl) ?_
            refine ql (.int .i64 2) (by kernel_rfl) (by kernel_rfl) ?_
            refine wpList_nil ?_
            refine x_then ?_
            refine wp_seq ?_
            refine wp_region_lit ?_
            refine ql (.int .i64 m) (by kernel_rfl) (by kernel_rfl) ?_
            refine qc (f := 7) (args := #[.int .i64 m]) (by kernel_rfl) (R_call #[.int .i64 m] Tryd.func7 (by kernel_rfl) (by kernel_rfl) (by kernel_rfl)) ?_
            refine (dnew_ok m _ (by omega) (by omega)).mono ?_
            rintro e W28 ⟨g23, a24, c25, ws26, rfl, H_, hR27⟩
            refine ⟨_, rfl, ?_⟩
            replace HS : St W (owns []) W28 [blk g23 [.slice (some ⟨a24, 0, none⟩) ws26.length c25, .int .i64 m] 53, row (some ⟨a24, 0, none⟩) ws26.length c25 (ci .u64 ws26) 54 1] := HS.join (F := []) (G := [blk g23 [.slice (some ⟨a24, 0, none⟩) ws26.length c25, .int .i64 m] 53, row (some ⟨a24, 0, none⟩) ws26.length c25 (ci .u64 ws26) 54 1]) H_
            clear H_
            refine ql (.tuple #[.pointer (some ⟨g23, 0, none⟩), .int .i64 0]) (by kernel_rfl) (by kernel_rfl) ?_
            refine ql (.pointer (some ⟨g23, 0, none⟩)) (by kernel_rfl) (by kernel_rfl) ?_
            refine ql (.int .i64 0) (by kernel_rfl) (by kernel_rfl) ?_
            refine ql (.pointer (some ⟨g23, 0, none⟩)) (by kernel_rfl) (by kernel_rfl) ?_
            refine ql (.int .i64 0) (by kernel_rfl) (by kernel_rfl) ?_
            refine wpList_nil ?_
            refine x_then ?_
            refine wp_seq ?_
            refine wp_seq ?_
            refine wp_region_lit ?_
            refine ql (.int .i64 n) (by kernel_rfl) (by kernel_rfl) ?_
            refine ql (.bool true) (by kernel_rfl) (R_bool (p := n < (0 : Int)) (by kernel_rfl) (by omega)) ?_
            refine wpList_nil ?_
            refine x_then ?_
            refine wp_cond_true (by kernel_rfl) ?_
            refine wp_seq ?_
            refine wp_region_lit ?_
            refine ql (.pointer none) (by kernel_rfl) (by kernel_rfl) ?_
            refine ql (.bool true) (by kernel_rfl) (by kernel_rfl) ?_
            refine ql (.bool true) (by kernel_rfl) (by kernel_rfl) ?_
            refine ql (.int .i64 2) (by kernel_rfl) (by kernel_rfl) ?_
            refine ql (.bool true) (by kernel_rfl) (R_beq (b := ((2 : Int) == 2)) (by kernel_rfl) (by decide)) ?_
            refine ql (.bool true) (by kernel_rfl) (by kernel_rfl) ?_
            refine ql (.bool true) (by kernel_rfl) (by kernel_rfl) ?_
            refine qc (f := 6) (args := #[]) (by kernel_rfl) (R_call #[] Tryd.func6 (by kernel_rfl) (by kernel_rfl) (by kernel_rfl)) ?_
            refine (dawake _ (hT.old0 HS)).mono ?_
            rintro e W29 ⟨rfl, H_⟩
            refine ⟨_, rfl, ?_⟩
            replace HS : St W (owns []) W29 [blk g23 [.slice (some ⟨a24, 0, none⟩) ws26.length c25, .int .i64 m] 53, row (some ⟨a24, 0, none⟩) ws26.length c25 (ci .u64 ws26) 54 1] := HS.join (F := []) (G := []) H_
            clear H_
            refine ql (.bool true) (by kernel_rfl) (by kernel_rfl) ?_
            refine ql (.bool true) (by kernel_rfl) (by kernel_rfl) ?_
            refine wpList_nil ?_
            refine x_then ?_
            refine wp_ret ?_
            refine x_thenR ?_
            refine ret_ (.bool true) (by kernel_rfl) ?_
            replace HS := HS.drop1
            replace HS := HS.drop1
            exact ⟨rfl, HS⟩
          · skip
            refine (dnew_ok n _ (by omega) (by omega)).mono ?_
            rintro e W35 ⟨g30, a31, c32, ws33, rfl, H_, hR34⟩
            refine ⟨_, rfl, ?_⟩
            replace HS : St W (owns []) W35 [blk g30 [.slice (some ⟨a31, 0, none⟩) ws33.length c32, .int .i64 n] 53, row (some ⟨a31, 0, none⟩) ws33.length c32 (ci .u64 ws33) 54 1] := HS.join (F := []) (G := [blk g30 [.slice (some ⟨a31, 0, none⟩) ws33.length c32, .int .i64 n] 53, row (some ⟨a31, 0, none⟩) ws33.length c32 (ci .u64 ws33) 54 1]) H_
            clear H_
            refine ql (.tuple #[.pointer (some ⟨g30, 0, none⟩), .int .i64 0]) (by kernel_rfl) (by kernel_rfl) ?_
            refine ql (.pointer (some ⟨g30, 0, none⟩)) (by kernel_rfl) (by kernel_rfl) ?_
            refine ql (.int .i64 0) (by kernel_rfl) (by kernel_rfl) ?_
            refine ql (.pointer (some ⟨g30, 0, none⟩)) (by kernel_rfl) (by kernel_rfl) ?_
            refine ql (.int .i64 0) (by kernel_rfl) (by kernel_rfl) ?_
            refine wpList_nil ?_
            refine x_then ?_
            refine wp_seq ?_
            refine wp_region_lit ?_
            refine ql (.int .i64 m) (by kernel_rfl) (by kernel_rfl) ?_
            refine qc (f := 7) (args := #[.int .i64 m]) (by kernel_rfl) (R_call #[.int .i64 m] Tryd.func7 (by kernel_rfl) (by kernel_rfl) (by kernel_rfl)) ?_
            refine (dnew_ok m _ (by omega) (by omega)).mono ?_
            rintro e W41 ⟨g36, a37, c38, ws39, rfl, H_, hR40⟩
            refine ⟨_, rfl, ?_⟩
            replace HS : St W (owns []) W41 [blk g36 [.slice (some ⟨a37, 0, none⟩) ws39.length c38, .int .i64 m] 53, row (some ⟨a37, 0, none⟩) ws39.length c38 (ci .u64 ws39) 54 1, blk g30 [.slice (some ⟨a31, 0, none⟩) ws33.length c32, .int .i64 n] 53, row (some ⟨a31, 0, none⟩) ws33.length c32 (ci .u64 ws33) 54 1] := HS.join (F := []) (G := [blk g36 [.slice (some ⟨a37, 0, none⟩) ws39.length c38, .int .i64 m] 53, row (some ⟨a37, 0, none⟩) ws39.length c38 (ci .u64 ws39) 54 1]) H_
            clear H_
            refine ql (.tuple #[.pointer (some ⟨g36, 0, none⟩), .int .i64 0]) (by kernel_rfl) (by kernel_rfl) ?_
            refine ql (.pointer (some ⟨g36, 0, none⟩)) (by kernel_rfl) (by kernel_rfl) ?_
            refine ql (.int .i64 0) (by kernel_rfl) (by kernel_rfl) ?_
            refine ql (.pointer (some ⟨g36, 0, none⟩)) (by kernel_rfl) (by kernel_rfl) ?_
            refine ql (.int .i64 0) (by kernel_rfl) (by kernel_rfl) ?_
            refine wpList_nil ?_
            refine x_then ?_
            refine wp_seq ?_
            refine wp_seq ?_
            refine wp_region_lit ?_
            refine ql (.int .i64 n) (by kernel_rfl) (by kernel_rfl) ?_
            refine ql (.bool false) (by kernel_rfl) (R_nbool (p := n < (0 : Int)) (by kernel_rfl) (by omega)) ?_
            refine wpList_nil ?_
            refine x_then ?_
            refine wp_cond_false (by kernel_rfl) ?_
            refine wp_skip ?_
            refine x_then ?_
            refine wp_seq ?_
            refine wp_seq ?_
            refine wp_region_lit ?_
            refine ql (.int .i64 n) (by kernel_rfl) (by kernel_rfl) ?_
            refine ql (.bool false) (by kernel_rfl) (R_nbool (p := n > (1048576 : Int)) (by kernel_rfl) (by omega)) ?_
            refine wpList_nil ?_
            refine x_then ?_
            refine wp_cond_false (by kernel_rfl) ?_
            refine wp_skip ?_
            refine x_then ?_
            refine wp_seq ?_
            refine wp_seq ?_
            refine wp_region_lit ?_
            refine ql (.pointer (some ⟨g30, 0, none⟩)) (by kernel_rfl) (by kernel_rfl) ?_
            refine ql (.bool false) (by kernel_rfl) (by kernel_rfl) ?_
            refine ql (.bool false) (by kernel_rfl) (by kernel_rfl) ?_
            refine ql (.pointer (some ⟨g36, 0, none⟩)) (by kernel_rfl) (by kernel_rfl) ?_
            refine ql (.bool false) (by kernel_rfl) (by kernel_rfl) ?_
            refine ql (.bool false) (by kernel_rfl) (by kernel_rfl) ?_
            refine ql (.bool false) (by kernel_rfl) (by kernel_rfl) ?_
            refine ql (.int .i64 0) (by kernel_rfl) (by kernel_rfl) ?_
            refine ql (.bool false) (by kernel_rfl) (R_beq (b := ((0 : Int) != 0)) (by kernel_rfl) (by decide)) ?_
            refine ql (.bool false) (by kernel_rfl) (by kernel_rfl) ?_
            refine ql (.bool false) (by kernel_rfl) (by kernel_rfl) ?_
            refine ql (.int .i64 0) (by kernel_rfl) (by kernel_rfl) ?_
            refine ql (.bool false) (by kernel_rfl) (R_beq (b := ((0 : Int) != 0)) (by kernel_rfl) (by decide)) ?_
            refine ql (.bool false) (by kernel_rfl) (by kernel_rfl) ?_
            refine wpList_nil ?_
            refine x_then ?_
            refine wp_cond_false (by kernel_rfl) ?_
            refine wp_skip ?_
            refine x_then ?_
            refine wp_seq ?_
            refine wp_region_lit ?_
            refine ql (.int .i64 n) (by kernel_rfl) (by kernel_rfl) ?_
            refine ql (.agg #[.int .i64 n, .slice none 0 0]) (by kernel_rfl) (by kernel_rfl) ?_
            refine ql (.int .i64 m) (by kernel_rfl) (by kernel_rfl) ?_
            refine ql (.agg #[.int .i64 m, .slice none 0 0]) (by kernel_rfl) (by kernel_rfl) ?_
            refine kb HS [.int .i64 0, .slice none 0 0] 39 (fun g => .pointer (some ⟨g, 0, none⟩)) (by kernel_rfl) (by kernel_rfl) ?_
            intro g42 W43 H_
            replace HS : St W (owns []) W43 [blk g42 [.int .i64 0, .slice none 0 0] 39, blk g36 [.slice (some ⟨a37, 0, none⟩) ws39.length c38, .int .i64 m] 53, row (some ⟨a37, 0, none⟩) ws39.length c38 (ci .u64 ws39) 54 1, blk g30 [.slice (some ⟨a31, 0, none⟩) ws33.length c32, .int .i64 n] 53, row (some ⟨a31, 0, none⟩) ws33.length c32 (ci .u64 ws33) 54 1] := H_
            clear H_
            refine kb HS [.int .i64 0, .slice none 0 0] 39 (fun g => .pointer (some ⟨g, 0, none⟩)) (by kernel_rfl) (by kernel_rfl) ?_
            intro g44 W45 H_
            replace HS : St W (owns []) W45 [blk g44 [.int .i64 0, .slice none 0 0] 39, blk g42 [.int .i64 0, .slice none 0 0] 39, blk g36 [.slice (some ⟨a37, 0, none⟩) ws39.length c38, .int .i64 m] 53, row (some ⟨a37, 0, none⟩) ws39.length c38 (ci .u64 ws39) 54 1, blk g30 [.slice (some ⟨a31, 0, none⟩) ws33.length c32, .int .i64 n] 53, row (some ⟨a31, 0, none⟩) ws33.length c32 (ci .u64 ws33) 54 1] := H_
            clear H_
            refine ks (v := .agg #[.int .i64 n, .slice none 0 0]) HS 1 rfl (0) [.int .i64 n, .slice none 0 0] (by kernel_rfl) (by kernel_rfl) (by kernel_rfl) (by kernel_rfl) (by kernel_rfl) (one_ (by kernel_rfl)) (Nat.le_of_ble_eq_true rfl) rfl ?_
            intro W46 H_
            replace HS : St W (owns []) W46 [blk g44 [.int .i64 0, .slice none 0 0] 39, blk g42 [.int .i64 n, .slice none 0 0] 39, blk g36 [.slice (some ⟨a37, 0, none⟩) ws39.length c38, .int .i64 m] 53, row (some ⟨a37, 0, none⟩) ws39.length c38 (ci .u64 ws39) 54 1, blk g30 [.slice (some ⟨a31, 0, none⟩) ws33.length c32, .int .i64 n] 53, row (some ⟨a31, 0, none⟩) ws33.length c32 (ci .u64 ws33) 54 1] := H_
            clear H_
            refine ks (v := .agg #[.int .i64 m, .slice none 0 0]) HS 0 rfl (0) [.int .i64 m, .slice none 0 0] (by kernel_rfl) (by kernel_rfl) (by kernel_rfl) (by kernel_rfl) (by kernel_rfl) (one_ (by kernel_rfl)) (Nat.le_of_ble_eq_true rfl) rfl ?_
            intro W47 H_
            replace HS : St W (owns []) W47 [blk g44 [.int .i64 m, .slice none 0 0] 39, blk g42 [.int .i64 n, .slice none 0 0] 39, blk g36 [.slice (some ⟨a37, 0, none⟩) ws39.length c38, .int .i64 m] 53, row (some ⟨a37, 0, none⟩) ws39.length c38 (ci .u64 ws39) 54 1, blk g30 [.slice (some ⟨a31, 0, none⟩) ws33.length c32, .int .i64 n] 53, row (some ⟨a31, 0, none⟩) ws33.length c32 (ci .u64 ws33) 54 1] := H_
            clear H_
            refine wpList_nil ?_
            refine x_then ?_
            refine wp_seq ?_
            refine wp_seq ?_
            refine wp_region_lit ?_
            refine ql (.int .i64 0) (by kernel_rfl) (by kernel_rfl) ?_
            refine wpList_nil ?_
            refine x_then ?_
            refine wp_block ?_
            replace HS : St W (owns []) W47 [row none 0 0 (ci .i64 ([])) 3 1, blk g44 [.int .i64 m, .slice none 0 0] 39, blk g42 [.int .i64 n, .slice none 0 0] 39, blk g36 [.slice (some ⟨a37, 0, none⟩) ws39.length c38, .int .i64 m] 53, row (some ⟨a37, 0, none⟩) ws39.length c38 (ci .u64 ws39) 54 1, blk g30 [.slice (some ⟨a31, 0, none⟩) ws33.length c32, .int .i64 n] 53, row (some ⟨a31, 0, none⟩) ws33.length c32 (ci .u64 ws33) 54 1] := (HS.nilRow 3 1).cast_ (by kernel_rfl)
            replace HS : St W (owns []) W47 [row none 0 0 (ci .i64 ([])) 3 1, row none 0 0 (ci .i64 ([])) 3 1, blk g44 [.int .i64 m, .slice none 0 0] 39, blk g42 [.int .i64 n, .slice none 0 0] 39, blk g36 [.slice (some ⟨a37, 0, none⟩) ws39.length c38, .int .i64 m] 53, row (some ⟨a37, 0, none⟩) ws39.length c38 (ci .u64 ws39) 54 1, blk g30 [.slice (some ⟨a31, 0, none⟩) ws33.length c32, .int .i64 n] 53, row (some ⟨a31, 0, none⟩) ws33.length c32 (ci .u64 ws33) 54 1] := (HS.nilRow 3 1).cast_ (by kernel_rfl)
            replace HS : St W (owns []) W47 [blk g42 [.int .i64 n, .slice none 0 0] 39, row none 0 0 (ci .i64 ([])) 3 1, blk g44 [.int .i64 m, .slice none 0 0] 39, row none 0 0 (ci .i64 ([])) 3 1, blk g30 [.slice (some ⟨a31, 0, none⟩) ws33.length c32, .int .i64 n] 53, row (some ⟨a31, 0, none⟩) ws33.length c32 (ci .u64 ws33) 54 1, blk g36 [.slice (some ⟨a37, 0, none⟩) ws39.length c38, .int .i64 m] 53, row (some ⟨a37, 0, none⟩) ws39.length c38 (ci .u64 ws39) 54 1] := HS.perm (perm_ [3, 0, 2, 1, 6, 7, 4, 5] (by kernel_rfl) rfl)
            refine wp_loop_ghost (fun kq a' w' => ∃ (J48 : Nat → Value) (k : Int) (L : List Int) (M : List Int) (A1 : Option Addr) (c1 : Nat) (A2 : Option Addr) (c2 : Nat) (ws : List Int) (vs : List Int) , a' = Fr ((.int .i64 n) :: (.int .i64 m) :: (.slice Al l.length cl) :: (.int .i64 i) :: undef :: undef :: undef :: undef :: ((J48 8)) :: (.pointer (some ⟨g30, 0, none⟩)) :: (.int .i64 0) :: (.pointer (some ⟨g36, 0, none⟩)) :: (.int .i64 0) :: (.pointer (some ⟨g42, 0, none⟩)) :: (.pointer (some ⟨g44, 0, none⟩)) :: (.int .i64 k) :: ((J48 16)) :: ((J48 17)) :: ((J48 18)) :: (.slice Al l.length cl) :: (.int .i64 (l.length : Int)) :: (.bool false) :: (.bool false) :: (.int .i64 n) :: (.bool false) :: (.bool false) :: undef :: undef :: (.bool false) :: (.bool false) :: (.bool false) :: (.int .i64 m) :: (.bool false) :: (.bool false) :: (.bool false) :: (.int .i64 m) :: (.bool false) :: (.bool false) :: undef :: (.tuple #[.pointer (some ⟨g30, 0, none⟩), .int .i64 0]) :: (.int .i64 n) :: (.tuple #[.pointer (some ⟨g30, 0, none⟩), .int .i64 0]) :: (.pointer (some ⟨g30, 0, none⟩)) :: (.int .i64 0) :: (.tuple #[.pointer (some ⟨g36, 0, none⟩), .int .i64 0]) :: (.int .i64 m) :: (.tuple #[.pointer (some ⟨g36, 0, none⟩), .int .i64 0]) :: (.pointer (some ⟨g36, 0, none⟩)) :: (.int .i64 0) :: (.int .i64 n) :: (.bool false) :: undef :: undef :: undef :: undef :: undef :: undef :: undef :: undef :: undef :: (.int .i64 n) :: (.bool false) :: undef :: undef :: undef :: undef :: undef :: undef :: undef :: undef :: undef :: (.pointer (some ⟨g30, 0, none⟩)) :: (.bool false) :: (.bool false) :: (.pointer (some ⟨g36, 0, none⟩)) :: (.bool false) :: (.bool false) :: (.bool false) :: (.int .i64 0) :: (.bool false) :: (.bool false) :: (.bool false) :: (.int .i64 0) :: (.bool false) :: (.bool false) :: (.int .i64 n) :: (.agg #[.int .i64 n, .slice none 0 0]) :: (.int .i64 m) :: (.agg #[.int .i64 m, .slice none 0 0]) :: ((J48 89)) :: ((J48 90)) :: ((J48 91)) :: ((J48 92)) :: ((J48 93)) :: ((J48 94)) :: ((J48 95)) :: ((J48 96)) :: ((J48 97)) :: ((J48 98)) :: ((J48 99)) :: ((J48 100)) :: ((J48 101)) :: ((J48 102)) :: ((J48 103)) :: ((J48 104)) :: ((J48 105)) :: ((J48 106)) :: ((J48 107)) :: ((J48 108)) :: ((J48 109)) :: ((J48 110)) :: ((J48 111)) :: ((J48 112)) :: ((J48 113)) :: ((J48 114)) :: ((J48 115)) :: ((J48 116)) :: ((J48 117)) :: ((J48 118)) :: ((J48 119)) :: ((J48 120)) :: ((J48 121)) :: ((J48 122)) :: ((J48 123)) :: ((J48 124)) :: ((J48 125)) :: ((J48 126)) :: ((J48 127)) :: ((J48 128)) :: ((J48 129)) :: ((J48 130)) :: ((J48 131)) :: ((J48 132)) :: ((J48 133)) :: ((J48 134)) :: ((J48 135)) :: ((J48 136)) :: ((J48 137)) :: ((J48 138)) :: ((J48 139)) :: ((J48 140)) :: ((J48 141)) :: ((J48 142)) :: ((J48 143)) :: ((J48 144)) :: ((J48 145)) :: ((J48 146)) :: ((J48 147)) :: ((J48 148)) :: ((J48 149)) :: ((J48 150)) :: ((J48 151)) :: ((J48 152)) :: ((J48 153)) :: ((J48 154)) :: ((J48 155)) :: ((J48 156)) :: ((J48 157)) :: ((J48 158)) :: ((J48 159)) :: undef :: []) ∧ kq = (l.length - (k).toNat) ∧ (0 ≤ k) ∧ (k ≤ l.length) ∧ (Rep ws n L) ∧ (Rep vs m M) ∧ St W (owns []) w' [blk g42 [.int .i64 n, .slice A1 L.length c1] 39, row A1 L.length c1 (ci .i64 L) 3 1, blk g44 [.int .i64 m, .slice A2 M.length c2] 39, row A2 M.length c2 (ci .i64 M) 3 1, blk g30 [.slice (some ⟨a31, 0, none⟩) ws.length c32, .int .i64 n] 53, row (some ⟨a31, 0, none⟩) ws.length c32 (ci .u64 ws) 54 1, blk g36 [.slice (some ⟨a37, 0, none⟩) vs.length c38, .int .i64 m] 53, row (some ⟨a37, 0, none⟩) vs.length c38 (ci .u64 vs) 54 1]) (l.length - ((0 : Int)).toNat) ⟨(fun k_ : Nat => List.getD ((.int .i64 n) :: (.int .i64 m) :: (.slice Al l.length cl) :: (.int .i64 i) :: undef :: undef :: undef :: undef :: (.bool false) :: (.pointer (some ⟨g30, 0, none⟩)) :: (.int .i64 0) :: (.pointer (some ⟨g36, 0, none⟩)) :: (.int .i64 0) :: (.pointer (some ⟨g42, 0, none⟩)) :: (.pointer (some ⟨g44, 0, none⟩)) :: (.int .i64 0) :: undef :: undef :: undef :: (.slice Al l.length cl) :: (.int .i64 (l.length : Int)) :: (.bool false) :: (.bool false) :: (.int .i64 n) :: (.bool false) :: (.bool false) :: undef :: undef :: (.bool false) :: (.bool false) :: (.bool false) :: (.int .i64 m) :: (.bool false) :: (.bool false) :: (.bool false) :: (.int .i64 m) :: (.bool false) :: (.bool false) :: undef :: (.tuple #[.pointer (some ⟨g30, 0, none⟩), .int .i64 0]) :: (.int .i64 n) :: (.tuple #[.pointer (some ⟨g30, 0, none⟩), .int .i64 0]) :: (.pointer (some ⟨g30, 0, none⟩)) :: (.int .i64 0) :: (.tuple #[.pointer (some ⟨g36, 0, none⟩), .int .i64 0]) :: (.int .i64 m) :: (.tuple #[.pointer (some ⟨g36, 0, none⟩), .int .i64 0]) :: (.pointer (some ⟨g36, 0, none⟩)) :: (.int .i64 0) :: (.int .i64 n) :: (.bool false) :: undef :: undef :: undef :: undef :: undef :: undef :: undef :: undef :: undef :: (.int .i64 n) :: (.bool false) :: undef :: undef :: undef :: undef :: undef :: undef :: undef :: undef :: undef :: (.pointer (some ⟨g30, 0, none⟩)) :: (.bool false) :: (.bool false) :: (.pointer (some ⟨g36, 0, none⟩)) :: (.bool false) :: (.bool false) :: (.bool false) :: (.int .i64 0) :: (.bool false) :: (.bool false) :: (.bool false) :: (.int .i64 0) :: (.bool false) :: (.bool false) :: (.int .i64 n) :: (.agg #[.int .i64 n, .slice none 0 0]) :: (.int .i64 m) :: (.agg #[.int .i64 m, .slice none 0 0]) :: undef :: undef :: undef :: undef :: undef :: undef :: undef :: undef :: undef :: undef :: undef :: undef :: undef :: undef :: undef :: undef :: undef :: undef :: undef :: undef :: undef :: undef :: undef :: undef :: undef :: undef :: undef :: undef :: undef :: undef :: undef :: undef :: undef :: undef :: undef :: undef :: undef :: undef :: undef :: undef :: undef :: undef :: undef :: undef :: undef :: undef :: undef :: undef :: undef :: undef :: undef :: undef :: undef :: undef :: undef :: undef :: undef :: undef :: undef :: undef :: undef :: undef :: undef :: undef :: undef :: undef :: undef :: undef :: undef :: undef :: undef :: undef :: []) k_ undef), (0 : Int), [], [], none, 0, none, 0, ws33, ws39, congrArg Fr (by kernel_rfl), rfl, by omega, by omega, hR34, hR40, HS⟩ ?_
            clear HS
            intro kq49 a' W50 hrel
            obtain ⟨J48, k, L, M, A1, c1, A2, c2, ws, vs, rfl, hk, k0, k1, hR, hM, HS⟩ := hrel
            have hlw := hR.llen
            have hlv := hM.llen
            refine wp_seq ?_
            refine wp_seq ?_
            refine wp_region_lit ?_
            refine ql (.int .i64 k) (by kernel_rfl) (by kernel_rfl) ?_
            refine ql (.slice Al l.length cl) (by kernel_rfl) (by kernel_rfl) ?_
            refine ql (.int .i64 (l.length : Int)) (by kernel_rfl) (by kernel_rfl) ?_
            by_cases hc51 : k < (l.length : Int)
            · skip
              refine ql (.bool true) (by kernel_rfl) (R_bool (p := k < (l.length : Int)) (by kernel_rfl) (hc51)) ?_
              refine wpList_nil ?_
              refine x_then ?_
              refine wp_cond_true (by kernel_rfl) ?_
              refine wp_skip ?_
              refine x_then ?_
              refine wp_seq ?_
              refine wp_block ?_
              refine wp_seq_cut (fun a' w' => ∃ (u52 : Nat → Value) (ga : Nat) (gb : Nat) (B1 : Option Addr) (d1 : Nat) (B2 : Option Addr) (d2 : Nat) , a' = Fr ((.int .i64 n) :: (.int .i64 m) :: (.slice Al l.length cl) :: (.int .i64 i) :: undef :: undef :: undef :: undef :: ((J48 8)) :: (.pointer (some ⟨g30, 0, none⟩)) :: (.int .i64 0) :: (.pointer (some ⟨g36, 0, none⟩)) :: (.int .i64 0) :: (.pointer (some ⟨g42, 0, none⟩)) :: (.pointer (some ⟨g44, 0, none⟩)) :: (.int .i64 k) :: (.pointer (some ⟨ga, 0, none⟩)) :: (.pointer (some ⟨gb, 0, none⟩)) :: (.bool (sB n m (gx l k).1 (gx l k).2 L M)) :: (.slice Al l.length cl) :: (.int .i64 (l.length : Int)) :: (.bool false) :: (.bool false) :: (.int .i64 n) :: (.bool false) :: (.bool false) :: undef :: undef :: (.bool false) :: (.bool false) :: (.bool false) :: (.int .i64 m) :: (.bool false) :: (.bool false) :: (.bool false) :: (.int .i64 m) :: (.bool false) :: (.bool false) :: undef :: (.tuple #[.pointer (some ⟨g30, 0, none⟩), .int .i64 0]) :: (.int .i64 n) :: (.tuple #[.pointer (some ⟨g30, 0, none⟩), .int .i64 0]) :: (.pointer (some ⟨g30, 0, none⟩)) :: (.int .i64 0) :: (.tuple #[.pointer (some ⟨g36, 0, none⟩), .int .i64 0]) :: (.int .i64 m) :: (.tuple #[.pointer (some ⟨g36, 0, none⟩), .int .i64 0]) :: (.pointer (some ⟨g36, 0, none⟩)) :: (.int .i64 0) :: (.int .i64 n) :: (.bool false) :: undef :: undef :: undef :: undef :: undef :: undef :: undef :: undef :: undef :: (.int .i64 n) :: (.bool false) :: undef :: undef :: undef :: undef :: undef :: undef :: undef :: undef :: undef :: (.pointer (some ⟨g30, 0, none⟩)) :: (.bool false) :: (.bool false) :: (.pointer (some ⟨g36, 0, none⟩)) :: (.bool false) :: (.bool false) :: (.bool false) :: (.int .i64 0) :: (.bool false) :: (.bool false) :: (.bool false) :: (.int .i64 0) :: (.bool false) :: (.bool false) :: (.int .i64 n) :: (.agg #[.int .i64 n, .slice none 0 0]) :: (.int .i64 m) :: (.agg #[.int .i64 m, .slice none 0 0]) :: (.int .i64 k) :: (.slice Al l.length cl) :: (.int .i64 (l.length : Int)) :: (.bool true) :: ((J48 93)) :: ((J48 94)) :: ((u52 95)) :: ((u52 96)) :: ((u52 97)) :: ((u52 98)) :: ((u52 99)) :: ((u52 100)) :: ((u52 101)) :: ((u52 102)) :: ((u52 103)) :: ((u52 104)) :: ((u52 105)) :: ((J48 106)) :: ((J48 107)) :: ((J48 108)) :: ((J48 109)) :: ((J48 110)) :: ((J48 111)) :: ((J48 112)) :: ((J48 113)) :: ((J48 114)) :: ((J48 115)) :: ((J48 116)) :: ((J48 117)) :: ((J48 118)) :: ((J48 119)) :: ((J48 120)) :: ((J48 121)) :: ((J48 122)) :: ((J48 123)) :: ((J48 124)) :: ((J48 125)) :: ((J48 126)) :: ((J48 127)) :: ((J48 128)) :: ((J48 129)) :: ((J48 130)) :: ((J48 131)) :: ((J48 132)) :: ((J48 133)) :: ((J48 134)) :: ((J48 135)) :: ((J48 136)) :: ((J48 137)) :: ((J48 138)) :: ((J48 139)) :: ((J48 140)) :: ((J48 141)) :: ((J48 142)) :: ((J48 143)) :: ((J48 144)) :: ((J48 145)) :: ((J48 146)) :: ((J48 147)) :: ((J48 148)) :: ((J48 149)) :: ((J48 150)) :: ((J48 151)) :: ((J48 152)) :: ((J48 153)) :: ((J48 154)) :: ((J48 155)) :: ((J48 156)) :: ((J48 157)) :: ((J48 158)) :: ((J48 159)) :: undef :: []) ∧ St W (owns []) w' [blk ga [.int .i64 n, .slice B1 ((sL n m (gx l k).1 (gx l k).2 L M).length) d1] 39, blk gb [.int .i64 m, .slice B2 ((sM n m (gx l k).1 (gx l k).2 L M).length) d2] 39, row B1 ((sL n m (gx l k).1 (gx l k).2 L M).length) d1 (ci .i64 (sL n m (gx l k).1 (gx l k).2 L M)) 3 1, row B2 ((sM n m (gx l k).1 (gx l k).2 L M).length) d2 (ci .i64 (sM n m (gx l k).1 (gx l k).2 L M)) 3 1, blk g42 [.int .i64 n, .slice A1 L.length c1] 39, blk g44 [.int .i64 m, .slice A2 M.length c2] 39, blk g30 [.slice (some ⟨a31, 0, none⟩) ws.length c32, .int .i64 n] 53, row (some ⟨a31, 0, none⟩) ws.length c32 (ci .u64 ws) 54 1, blk g36 [.slice (some ⟨a37, 0, none⟩) vs.length c38, .int .i64 m] 53, row (some ⟨a37, 0, none⟩) vs.length c38 (ci .u64 vs) 54 1]) ?_ ?_
              · skip
                replace HS : St W (owns []) W50 [row A1 L.length c1 (ci .i64 L) 3 1, row A2 M.length c2 (ci .i64 M) 3 1, blk g42 [.int .i64 n, .slice A1 L.length c1] 39, blk g44 [.int .i64 m, .slice A2 M.length c2] 39, blk g30 [.slice (some ⟨a31, 0, none⟩) ws.length c32, .int .i64 n] 53, row (some ⟨a31, 0, none⟩) ws.length c32 (ci .u64 ws) 54 1, blk g36 [.slice (some ⟨a37, 0, none⟩) vs.length c38, .int .i64 m] 53, row (some ⟨a37, 0, none⟩) vs.length c38 (ci .u64 vs) 54 1] := HS.perm (perm_ [1, 3, 0, 2, 4, 5, 6, 7] (by kernel_rfl) rfl)
                refine t_start HS (fun k_ => (row A1 L.length c1 (ci .i64 L) 3 1).own k_ ∨ (row A2 M.length c2 (ci .i64 M) 3 1).own k_) 16 (by kernel_rfl) rfl ?_
                intro W53 H_ HD_
                clear HD_
                replace HS : St W (owns []) W53 [row A1 L.length c1 (ci .i64 L) 3 1, row A2 M.length c2 (ci .i64 M) 3 1, blk g42 [.int .i64 n, .slice A1 L.length c1] 39, blk g44 [.int .i64 m, .slice A2 M.length c2] 39, blk g30 [.slice (some ⟨a31, 0, none⟩) ws.length c32, .int .i64 n] 53, row (some ⟨a31, 0, none⟩) ws.length c32 (ci .u64 ws) 54 1, blk g36 [.slice (some ⟨a37, 0, none⟩) vs.length c38, .int .i64 m] 53, row (some ⟨a37, 0, none⟩) vs.length c38 (ci .u64 vs) 54 1] := H_
                clear H_
                have HV := HS
                have HK := Kpt.refl (fun k_ => (row A1 L.length c1 (ci .i64 L) 3 1).own k_ ∨ (row A2 M.length c2 (ci .i64 M) 3 1).own k_) W53
                refine t_q (n := 15) 0 (.agg #[.int .i64 n, .slice A1 L.length c1]) rfl (by kernel_rfl) (by kernel_rfl) (fun _ _ _ h => h) (fun w' hk => (R_loadN (p := ⟨g42, 0, none⟩) [.int .i64 n, .slice A1 L.length c1] (by kernel_rfl) (by kernel_rfl) (by kernel_rfl) (by kernel_rfl) (two_at (hk.cellN (fun h_ => h_.elim (HV.sepB (a := 2) (b := 0) (by decide) rfl rfl) (HV.sepB (a := 2) (b := 1) (by decide) rfl rfl)) (HV.cell (i := 2) (j := 0) rfl rfl)) (hk.cellN (fun h_ => h_.elim (HV.sepB (a := 2) (b := 0) (by decide) rfl rfl) (HV.sepB (a := 2) (b := 1) (by decide) rfl rfl)) (HV.cell (i := 2) (j := 1) rfl rfl))))) HK ?_
                refine t_q (n := 14) 1 (.agg #[.int .i64 m, .slice A2 M.length c2]) rfl (by kernel_rfl) (by kernel_rfl) (fun _ _ _ h => h) (fun w' hk => (R_loadN (p := ⟨g44, 0, none⟩) [.int .i64 m, .slice A2 M.length c2] (by kernel_rfl) (by kernel_rfl) (by kernel_rfl) (by kernel_rfl) (two_at (hk.cellN (fun h_ => h_.elim (HV.sepB (a := 3) (b := 0) (by decide) rfl rfl) (HV.sepB (a := 3) (b := 1) (by decide) rfl rfl)) (HV.cell (i := 3) (j := 0) rfl rfl)) (hk.cellN (fun h_ => h_.elim (HV.sepB (a := 3) (b := 0) (by decide) rfl rfl) (HV.sepB (a := 3) (b := 1) (by decide) rfl rfl)) (HV.cell (i := 3) (j := 1) rfl rfl))))) HK ?_
                refine t_q (n := 13) 2 (.slice Al l.length cl) rfl (by kernel_rfl) (by kernel_rfl) (fun _ _ _ h => h) (fun w' hk => (by kernel_rfl)) HK ?_
                refine t_q (n := 12) 3 (.int .i64 k) rfl (by kernel_rfl) (by kernel_rfl) (fun _ _ _ h => h) (fun w' hk => (by kernel_rfl)) HK ?_
                obtain ⟨ad54, rfl⟩ := Rd.isSome_ hra (by rw [cf_len (z := 2) (fun _ => rfl)]; omega)
                refine t_q (n := 11) 4 (.pointer (some (ad54.add (k.toNat * 2)))) rfl (by kernel_rfl) (by kernel_rfl) (fun _ _ _ h => h) (fun w' hk => (R_indexA (k := .i64) (p := ad54) (n := l.length) (c := cl) (i := k) (by kernel_rfl) (by kernel_rfl) Tryd.underlying37 (by kernel_rfl) (by omega) (by omega))) HK ?_
                refine t_q (n := 10) 5 (.agg #[.int .i64 ((gx l k).1), .int .i64 ((gx l k).2)]) rfl (by kernel_rfl) (by kernel_rfl) (fun _ _ _ h => h) (fun w' hk => (R_loadN (p := ad54.add (k.toNat * 2)) [.int .i64 ((gx l k).1), .int .i64 ((gx l k).2)] (by kernel_rfl) (by kernel_rfl) (by kernel_rfl) (by kernel_rfl) (fun j_ v_ hv_ => (hk.cellN (fun h_ => h_.elim (HV.oldSep (i := 0) rfl ((Rd.elem (f := actD) (fun _ => rfl) hra (gx_eq (by omega) (by omega))) j_ v_ hv_)) (HV.oldSep (i := 1) rfl ((Rd.elem (f := actD) (fun _ => rfl) hra (gx_eq (by omega) (by omega))) j_ v_ hv_))) (HV.old0 ((Rd.elem (f := actD) (fun _ => rfl) hra (gx_eq (by omega) (by omega))) j_ v_ hv_)))))) HK ?_
                refine t_pick3 (n := 9) 6 11 12 (by kernel_rfl) ?_ ?_ ?_
                · skip
                  refine t_c2 (n := 9) 6 (f := 16) (args := #[.agg #[.int .i64 n, .slice A1 L.length c1], .agg #[.int .i64 m, .slice A2 M.length c2], .agg #[.int .i64 ((gx l k).1), .int .i64 ((gx l k).2)]]) rfl (by kernel_rfl) (R_call #[.agg #[.int .i64 n, .slice A1 L.length c1], .agg #[.int .i64 m, .slice A2 M.length c2], .agg #[.int .i64 ((gx l k).1), .int .i64 ((gx l k).2)]] Tryd.func16 (by kernel_rfl) (by kernel_rfl) (by kernel_rfl)) ?_
                  refine (r3do A1 c1 L n A2 c2 M m (gx l k).1 (gx l k).2 _ _ (St.focus (F := [row A1 L.length c1 (ci .i64 L) 3 1, row A2 M.length c2 (ci .i64 M) 3 1]) HS) (by omega) (by omega) hR.srt hR.lim hM.srt hM.lim).mono ?_
                  rintro e W59 ⟨A55, c56, A57, c58, rfl, H_⟩
                  have hkf_ : ∀ k_, owns [row A1 L.length c1 (ci .i64 L) 3 1, row A2 M.length c2 (ci .i64 M) 3 1] k_ → (row A1 L.length c1 (ci .i64 L) 3 1).own k_ ∨ (row A2 M.length c2 (ci .i64 M) 3 1).own k_ := by
                    intro k_ h_; obtain ⟨e_, he_, ho_⟩ := h_; simp only [List.mem_cons, List.not_mem_nil, or_false] at he_; rcases he_ with rfl | rfl <;> first | exact (.inl ho_) | exact (.inr ho_)
                  refine ⟨_, rfl, HK.trans H_.kept (fun _ h_ => .inl (hkf_ _ h_)), ?_⟩
                  replace HK := HK.trans H_.kept (fun _ h_ => .inl (hkf_ _ h_))
                  replace HS : St W (owns []) W59 [row A55 ((sL n m (gx l k).1 (gx l k).2 L M).length) c56 (ci .i64 (sL n m (gx l k).1 (gx l k).2 L M)) 3 1, row A57 ((sM n m (gx l k).1 (gx l k).2 L M).length) c58 (ci .i64 (sM n m (gx l k).1 (gx l k).2 L M)) 3 1, blk g42 [.int .i64 n, .slice A1 L.length c1] 39, blk g44 [.int .i64 m, .slice A2 M.length c2] 39, blk g30 [.slice (some ⟨a31, 0, none⟩) ws.length c32, .int .i64 n] 53, row (some ⟨a31, 0, none⟩) ws.length c32 (ci .u64 ws) 54 1, blk g36 [.slice (some ⟨a37, 0, none⟩) vs.length c38, .int .i64 m] 53, row (some ⟨a37, 0, none⟩) vs.length c38 (ci .u64 vs) 54 1] := HS.join (F := [row A1 L.length c1 (ci .i64 L) 3 1, row A2 M.length c2 (ci .i64 M) 3 1]) (G := [row A55 ((sL n m (gx l k).1 (gx l k).2 L M).length) c56 (ci .i64 (sL n m (gx l k).1 (gx l k).2 L M)) 3 1, row A57 ((sM n m (gx l k).1 (gx l k).2 L M).length) c58 (ci .i64 (sM n m (gx l k).1 (gx l k).2 L M)) 3 1]) H_
                  clear H_
                  refine t_q (n := 8) 7 (.tuple #[.agg #[.int .i64 n, .slice A55 ((sL n m (gx l k).1 (gx l k).2 L M).length) c56], .agg #[.int .i64 m, .slice A57 ((sM n m (gx l k).1 (gx l k).2 L M).length) c58], .bool (sB n m (gx l k).1 (gx l k).2 L M)]) rfl (by kernel_rfl) (by kernel_rfl) (fun _ _ _ h => h) (fun w' hk => (by kernel_rfl)) HK ?_
                  refine t_q (n := 7) 8 (.agg #[.int .i64 n, .slice A55 ((sL n m (gx l k).1 (gx l k).2 L M).length) c56]) rfl (by kernel_rfl) (by kernel_rfl) (fun _ _ _ h => h) (fun w' hk => (by kernel_rfl)) HK ?_
                  refine t_q (n := 6) 9 (.agg #[.int .i64 m, .slice A57 ((sM n m (gx l k).1 (gx l k).2 L M).length) c58]) rfl (by kernel_rfl) (by kernel_rfl) (fun _ _ _ h => h) (fun w' hk => (by kernel_rfl)) HK ?_
                  refine t_q (n := 5) 10 (.bool (sB n m (gx l k).1 (gx l k).2 L M)) rfl (by kernel_rfl) (by kernel_rfl) (fun _ _ _ h => h) (fun w' hk => (by kernel_rfl)) HK ?_
                  refine t_pick2 (n := 4) 11 12 (by kernel_rfl) ?_ ?_
                  · skip
                    obtain ⟨g60, W61, hg_, hw_, H_, hk_⟩ := ex_blk HS [.int .i64 0, .slice none 0 0] 39
                    have hv_g60 := Nat.le_trans HK.size (Nat.le_of_eq (Eq.symm hg_))
                    refine t_e2 (n := 4) 11 (.pointer (some ⟨g60, 0, none⟩)) rfl (by kernel_rfl) (by subst hg_; subst hw_; kernel_rfl) (HK.tr hk_) ?_
                    replace HK := HK.tr hk_
                    clear hk_
                    clear hg_ hw_
                    replace HS : St W (owns []) W61 [blk g60 [.int .i64 0, .slice none 0 0] 39, row A55 ((sL n m (gx l k).1 (gx l k).2 L M).length) c56 (ci .i64 (sL n m (gx l k).1 (gx l k).2 L M)) 3 1, row A57 ((sM n m (gx l k).1 (gx l k).2 L M).length) c58 (ci .i64 (sM n m (gx l k).1 (gx l k).2 L M)) 3 1, blk g42 [.int .i64 n, .slice A1 L.length c1] 39, blk g44 [.int .i64 m, .slice A2 M.length c2] 39, blk g30 [.slice (some ⟨a31, 0, none⟩) ws.length c32, .int .i64 n] 53, row (some ⟨a31, 0, none⟩) ws.length c32 (ci .u64 ws) 54 1, blk g36 [.slice (some ⟨a37, 0, none⟩) vs.length c38, .int .i64 m] 53, row (some ⟨a37, 0, none⟩) vs.length c38 (ci .u64 vs) 54 1] := H_
                    clear H_
                    obtain ⟨g62, W63, hg_, hw_, H_, hk_⟩ := ex_blk HS [.int .i64 0, .slice none 0 0] 39
                    have hv_g62 := Nat.le_trans HK.size (Nat.le_of_eq (Eq.symm hg_))
                    refine t_e (n := 3) 12 (.pointer (some ⟨g62, 0, none⟩)) rfl (by kernel_rfl) (by kernel_rfl) (by subst hg_; subst hw_; kernel_rfl) (HK.tr hk_) ?_
                    replace HK := HK.tr hk_
                    clear hk_
                    clear hg_ hw_
                    replace HS : St W (owns []) W63 [blk g62 [.int .i64 0, .slice none 0 0] 39, blk g60 [.int .i64 0, .slice none 0 0] 39, row A55 ((sL n m (gx l k).1 (gx l k).2 L M).length) c56 (ci .i64 (sL n m (gx l k).1 (gx l k).2 L M)) 3 1, row A57 ((sM n m (gx l k).1 (gx l k).2 L M).length) c58 (ci .i64 (sM n m (gx l k).1 (gx l k).2 L M)) 3 1, blk g42 [.int .i64 n, .slice A1 L.length c1] 39, blk g44 [.int .i64 m, .slice A2 M.length c2] 39, blk g30 [.slice (some ⟨a31, 0, none⟩) ws.length c32, .int .i64 n] 53, row (some ⟨a31, 0, none⟩) ws.length c32 (ci .u64 ws) 54 1, blk g36 [.slice (some ⟨a37, 0, none⟩) vs.length c38, .int .i64 m] 53, row (some ⟨a37, 0, none⟩) vs.length c38 (ci .u64 vs) 54 1] := H_
                    clear H_
                    obtain ⟨W64, hrun_, H_, hk_⟩ := ex_ks (P := Tryd.prog) (ty := 0) (ps := "law.go:60") (af := #[{ on := 11, ground := Go.Ground.data }, { on := 8, ground := Go.Ground.data }, { on := 6, ground := Go.Ground.chain }, { on := 0, ground := Go.Ground.phase }, { on := 1, ground := Go.Ground.phase }, { on := 2, ground := Go.Ground.phase }, { on := 3, ground := Go.Ground.phase }, { on := 4, ground := Go.Ground.phase }, { on := 5, ground := Go.Ground.phase }, { on := 6, ground := Go.Ground.phase }, { on := 7, ground := Go.Ground.phase }, { on := 8, ground := Go.Ground.phase }, { on := 9, ground := (Go.Ground.textOnly Go.Departure.lateStores) }, { on := 10, ground := (Go.Ground.textOnly Go.Departure.lateStores) }, { on := 11, ground := Go.Ground.phase }, { on := 12, ground := Go.Ground.phase }]) (gd := none) (t := 39) (x := (Go.Operand.tmp 16)) (y := (Go.Operand.tmp 103)) (v := .agg #[.int .i64 n, .slice A55 ((sL n m (gx l k).1 (gx l k).2 L M).length) c56]) HS 1 rfl (0) [.int .i64 n, .slice A55 ((sL n m (gx l k).1 (gx l k).2 L M).length) c56] (by kernel_rfl) (by kernel_rfl) (by kernel_rfl) (by kernel_rfl) (one_ (by kernel_rfl)) (Nat.le_of_ble_eq_true rfl)
                    replace HK := HK.trans hk_ (fun _ h_ => .inr (Nat.le_trans hv_g60 (Nat.le_of_eq (Eq.symm h_))))
                    refine t_s (n := 2) 13 rfl (by kernel_rfl) (by kernel_rfl) hrun_ HK ?_
                    clear hk_ hrun_
                    replace HS : St W (owns []) W64 [blk g62 [.int .i64 0, .slice none 0 0] 39, blk g60 [.int .i64 n, .slice A55 ((sL n m (gx l k).1 (gx l k).2 L M).length) c56] 39, row A55 ((sL n m (gx l k).1 (gx l k).2 L M).length) c56 (ci .i64 (sL n m (gx l k).1 (gx l k).2 L M)) 3 1, row A57 ((sM n m (gx l k).1 (gx l k).2 L M).length) c58 (ci .i64 (sM n m (gx l k).1 (gx l k).2 L M)) 3 1, blk g42 [.int .i64 n, .slice A1 L.length c1] 39, blk g44 [.int .i64 m, .slice A2 M.length c2] 39, blk g30 [.slice (some ⟨a31, 0, none⟩) ws.length c32, .int .i64 n] 53, row (some ⟨a31, 0, none⟩) ws.length c32 (ci .u64 ws) 54 1, blk g36 [.slice (some ⟨a37, 0, none⟩) vs.length c38, .int .i64 m] 53, row (some ⟨a37, 0, none⟩) vs.length c38 (ci .u64 vs) 54 1] := H_
                    clear H_
                    obtain ⟨W65, hrun_, H_, hk_⟩ := ex_ks (P := Tryd.prog) (ty := 0) (ps := "law.go:60") (af := #[{ on := 12, ground := Go.Ground.data }, { on := 9, ground := Go.Ground.data }, { on := 13, ground := Go.Ground.chain }, { on := 0, ground := Go.Ground.phase }, { on := 1, ground := Go.Ground.phase }, { on := 2, ground := Go.Ground.phase }, { on := 3, ground := Go.Ground.phase }, { on := 4, ground := Go.Ground.phase }, { on := 5, ground := Go.Ground.phase }, { on := 6, ground := Go.Ground.phase }, { on := 7, ground := Go.Ground.phase }, { on := 8, ground := Go.Ground.phase }, { on := 9, ground := Go.Ground.phase }, { on := 10, ground := (Go.Ground.textOnly Go.Departure.lateStores) }, { on := 11, ground := Go.Ground.phase }, { on := 12, ground := Go.Ground.phase }, { on := 13, ground := Go.Ground.phase }]) (gd := none) (t := 39) (x := (Go.Operand.tmp 17)) (y := (Go.Operand.tmp 104)) (v := .agg #[.int .i64 m, .slice A57 ((sM n m (gx l k).1 (gx l k).2 L M).length) c58]) HS 0 rfl (0) [.int .i64 m, .slice A57 ((sM n m (gx l k).1 (gx l k).2 L M).length) c58] (by kernel_rfl) (by kernel_rfl) (by kernel_rfl) (by kernel_rfl) (one_ (by kernel_rfl)) (Nat.le_of_ble_eq_true rfl)
                    replace HK := HK.trans hk_ (fun _ h_ => .inr (Nat.le_trans hv_g62 (Nat.le_of_eq (Eq.symm h_))))
                    refine t_s (n := 1) 14 rfl (by kernel_rfl) (by kernel_rfl) hrun_ HK ?_
                    clear hk_ hrun_
                    replace HS : St W (owns []) W65 [blk g62 [.int .i64 m, .slice A57 ((sM n m (gx l k).1 (gx l k).2 L M).length) c58] 39, blk g60 [.int .i64 n, .slice A55 ((sL n m (gx l k).1 (gx l k).2 L M).length) c56] 39, row A55 ((sL n m (gx l k).1 (gx l k).2 L M).length) c56 (ci .i64 (sL n m (gx l k).1 (gx l k).2 L M)) 3 1, row A57 ((sM n m (gx l k).1 (gx l k).2 L M).length) c58 (ci .i64 (sM n m (gx l k).1 (gx l k).2 L M)) 3 1, blk g42 [.int .i64 n, .slice A1 L.length c1] 39, blk g44 [.int .i64 m, .slice A2 M.length c2] 39, blk g30 [.slice (some ⟨a31, 0, none⟩) ws.length c32, .int .i64 n] 53, row (some ⟨a31, 0, none⟩) ws.length c32 (ci .u64 ws) 54 1, blk g36 [.slice (some ⟨a37, 0, none⟩) vs.length c38, .int .i64 m] 53, row (some ⟨a37, 0, none⟩) vs.length c38 (ci .u64 vs) 54 1] := H_
                    clear H_
                    refine t_q (n := 0) 15 (.bool (sB n m (gx l k).1 (gx l k).2 L M)) rfl (by kernel_rfl) (by kernel_rfl) (fun _ _ _ h => h) (fun w' hk => (by kernel_rfl)) HK ?_
                    refine t_done (by kernel_rfl) ?_
                    clear HV HK
                    replace HS : St W (owns []) W65 [blk g60 [.int .i64 n, .slice A55 ((sL n m (gx l k).1 (gx l k).2 L M).length) c56] 39, blk g62 [.int .i64 m, .slice A57 ((sM n m (gx l k).1 (gx l k).2 L M).length) c58] 39, row A55 ((sL n m (gx l k).1 (gx l k).2 L M).length) c56 (ci .i64 (sL n m (gx l k).1 (gx l k).2 L M)) 3 1, row A57 ((sM n m (gx l k).1 (gx l k).2 L M).length) c58 (ci .i64 (sM n m (gx l k).1 (gx l k).2 L M)) 3 1, blk g42 [.int .i64 n, .slice A1 L.length c1] 39, blk g44 [.int .i64 m, .slice A2 M.length c2] 39, blk g30 [.slice (some ⟨a31, 0, none⟩) ws.length c32, .int .i64 n] 53, row (some ⟨a31, 0, none⟩) ws.length c32 (ci .u64 ws) 54 1, blk g36 [.slice (some ⟨a37, 0, none⟩) vs.length c38, .int .i64 m] 53, row (some ⟨a37, 0, none⟩) vs.length c38 (ci .u64 vs) 54 1] := St.tail (F := []) (HS.perm (perm_ [1, 0, 2, 3, 4, 5, 6, 7, 8, 9] (by kernel_rfl) rfl))
                    refine x_then ?_
                    exact ⟨(fun k_ : Nat => List.getD ((.int .i64 n) :: (.int .i64 m) :: (.slice (some ad54) l.length cl) :: (.int .i64 i) :: undef :: undef :: undef :: undef :: ((J48 8)) :: (.pointer (some ⟨g30, 0, none⟩)) :: (.int .i64 0) :: (.pointer (some ⟨g36, 0, none⟩)) :: (.int .i64 0) :: (.pointer (some ⟨g42, 0, none⟩)) :: (.pointer (some ⟨g44, 0, none⟩)) :: (.int .i64 k) :: (.pointer (some ⟨g60, 0, none⟩)) :: (.pointer (some ⟨g62, 0, none⟩)) :: (.bool (sB n m (gx l k).1 (gx l k).2 L M)) :: (.slice (some ad54) l.length cl) :: (.int .i64 (l.length : Int)) :: (.bool false) :: (.bool false) :: (.int .i64 n) :: (.bool false) :: (.bool false) :: undef :: undef :: (.bool false) :: (.bool false) :: (.bool false) :: (.int .i64 m) :: (.bool false) :: (.bool false) :: (.bool false) :: (.int .i64 m) :: (.bool false) :: (.bool false) :: undef :: (.tuple #[.pointer (some ⟨g30, 0, none⟩), .int .i64 0]) :: (.int .i64 n) :: (.tuple #[.pointer (some ⟨g30, 0, none⟩), .int .i64 0]) :: (.pointer (some ⟨g30, 0, none⟩)) :: (.int .i64 0) :: (.tuple #[.pointer (some ⟨g36, 0, none⟩), .int .i64 0]) :: (.int .i64 m) :: (.tuple #[.pointer (some ⟨g36, 0, none⟩), .int .i64 0]) :: (.pointer (some ⟨g36, 0, none⟩)) :: (.int .i64 0) :: (.int .i64 n) :: (.bool false) :: undef :: undef :: undef :: undef :: undef :: undef :: undef :: undef :: undef :: (.int .i64 n) :: (.bool false) :: undef :: undef :: undef :: undef :: undef :: undef :: undef :: undef :: undef :: (.pointer (some ⟨g30, 0, none⟩)) :: (.bool false) :: (.bool false) :: (.pointer (some ⟨g36, 0, none⟩)) :: (.bool false) :: (.bool false) :: (.bool false) :: (.int .i64 0) :: (.bool false) :: (.bool false) :: (.bool false) :: (.int .i64 0) :: (.bool false) :: (.bool false) :: (.int .i64 n) :: (.agg #[.int .i64 n, .slice none 0 0]) :: (.int .i64 m) :: (.agg #[.int .i64 m, .slice none 0 0]) :: (.int .i64 k) :: (.slice (some ad54) l.length cl) :: (.int .i64 (l.length : Int)) :: (.bool true) :: ((J48 93)) :: ((J48 94)) :: (.tuple #[.agg #[.int .i64 n, .slice A55 ((sL n m (gx l k).1 (gx l k).2 L M).length) c56], .agg #[.int .i64 m, .slice A57 ((sM n m (gx l k).1 (gx l k).2 L M).length) c58], .bool (sB n m (gx l k).1 (gx l k).2 L M)]) :: (.agg #[.int .i64 n, .slice A1 L.length c1]) :: (.agg #[.int .i64 m, .slice A2 M.length c2]) :: (.slice (some ad54) l.length cl) :: (.int .i64 k) :: (.pointer (some (ad54.add (k.toNat * 2)))) :: (.agg #[.int .i64 ((gx l k).1), .int .i64 ((gx l k).2)]) :: (.tuple #[.agg #[.int .i64 n, .slice A55 ((sL n m (gx l k).1 (gx l k).2 L M).length) c56], .agg #[.int .i64 m, .slice A57 ((sM n m (gx l k).1 (gx l k).2 L M).length) c58], .bool (sB n m (gx l k).1 (gx l k).2 L M)]) :: (.agg #[.int .i64 n, .slice A55 ((sL n m (gx l k).1 (gx l k).2 L M).length) c56]) :: (.agg #[.int .i64 m, .slice A57 ((sM n m (gx l k).1 (gx l k).2 L M).length) c58]) :: (.bool (sB n m (gx l k).1 (gx l k).2 L M)) :: ((J48 106)) :: ((J48 107)) :: ((J48 108)) :: ((J48 109)) :: ((J48 110)) :: ((J48 111)) :: ((J48 112)) :: ((J48 113)) :: ((J48 114)) :: ((J48 115)) :: ((J48 116)) :: ((J48 117)) :: ((J48 118)) :: ((J48 119)) :: ((J48 120)) :: ((J48 121)) :: ((J48 122)) :: ((J48 123)) :: ((J48 124)) :: ((J48 125)) :: ((J48 126)) :: ((J48 127)) :: ((J48 128)) :: ((J48 129)) :: ((J48 130)) :: ((J48 131)) :: ((J48 132)) :: ((J48 133)) :: ((J48 134)) :: ((J48 135)) :: ((J48 136)) :: ((J48 137)) :: ((J48 138)) :: ((J48 139)) :: ((J48 140)) :: ((J48 141)) :: ((J48 142)) :: ((J48 143)) :: ((J48 144)) :: ((J48 145)) :: ((J48 146)) :: ((J48 147)) :: ((J48 148)) :: ((J48 149)) :: ((J48 150)) :: ((J48 151)) :: ((J48 152)) :: ((J48 153)) :: ((J48 154)) :: ((J48 155)) :: ((J48 156)) :: ((J48 157)) :: ((J48 158)) :: ((J48 159)) :: undef :: []) k_ undef), g60, g62, A55, c56, A57, c58, congrArg Fr (by kernel_rfl), HS⟩
                  · skip
                    obtain ⟨g66, W67, hg_, hw_, H_, hk_⟩ := ex_blk HS [.int .i64 0, .slice none 0 0] 39
                    have hv_g66 := Nat.le_trans HK.size (Nat.le_of_eq (Eq.symm hg_))
                    refine t_e2 (n := 4) 12 (.pointer (some ⟨g66, 0, none⟩)) rfl (by kernel_rfl) (by subst hg_; subst hw_; kernel_rfl) (HK.tr hk_) ?_
                    replace HK := HK.tr hk_
                    clear hk_
                    clear hg_ hw_
                    replace HS : St W (owns []) W67 [blk g66 [.int .i64 0, .slice none 0 0] 39, row A55 ((sL n m (gx l k).1 (gx l k).2 L M).length) c56 (ci .i64 (sL n m (gx l k).1 (gx l k).2 L M)) 3 1, row A57 ((sM n m (gx l k).1 (gx l k).2 L M).length) c58 (ci .i64 (sM n m (gx l k).1 (gx l k).2 L M)) 3 1, blk g42 [.int .i64 n, .slice A1 L.length c1] 39, blk g44 [.int .i64 m, .slice A2 M.length c2] 39, blk g30 [.slice (some ⟨a31, 0, none⟩) ws.length c32, .int .i64 n] 53, row (some ⟨a31, 0, none⟩) ws.length c32 (ci .u64 ws) 54 1, blk g36 [.slice (some ⟨a37, 0, none⟩) vs.length c38, .int .i64 m] 53, row (some ⟨a37, 0, none⟩) vs.length c38 (ci .u64 vs) 54 1] := H_
                    clear H_
                    obtain ⟨g68, W69, hg_, hw_, H_, hk_⟩ := ex_blk HS [.int .i64 0, .slice none 0 0] 39
                    have hv_g68 := Nat.le_trans HK.size (Nat.le_of_eq (Eq.symm hg_))
                    refine t_e (n := 3) 11 (.pointer (some ⟨g68, 0, none⟩)) rfl (by kernel_rfl) (by kernel_rfl) (by subst hg_; subst hw_; kernel_rfl) (HK.tr hk_) ?_
                    replace HK := HK.tr hk_
                    clear hk_
                    clear hg_ hw_
                    replace HS : St W (owns []) W69 [blk g68 [.int .i64 0, .slice none 0 0] 39, blk g66 [.int .i64 0, .slice none 0 0] 39, row A55 ((sL n m (gx l k).1 (gx l k).2 L M).length) c56 (ci .i64 (sL n m (gx l k).1 (gx l k).2 L M)) 3 1, row A57 ((sM n m (gx l k).1 (gx l k).2 L M).length) c58 (ci .i64 (sM n m (gx l k).1 (gx l k).2 L M)) 3 1, blk g42 [.int .i64 n, .slice A1 L.length c1] 39, blk g44 [.int .i64 m, .slice A2 M.length c2] 39, blk g30 [.slice (some ⟨a31, 0, none⟩) ws.length c32, .int .i64 n] 53, row (some ⟨a31, 0, none⟩) ws.length c32 (ci .u64 ws) 54 1, blk g36 [.slice (some ⟨a37, 0, none⟩) vs.length c38, .int .i64 m] 53, row (some ⟨a37, 0, none⟩) vs.length c38 (ci .u64 vs) 54 1] := H_
                    clear H_
                    obtain ⟨W70, hrun_, H_, hk_⟩ := ex_ks (P := Tryd.prog) (ty := 0) (ps := "law.go:60") (af := #[{ on := 11, ground := Go.Ground.data }, { on := 8, ground := Go.Ground.data }, { on := 6, ground := Go.Ground.chain }, { on := 0, ground := Go.Ground.phase }, { on := 1, ground := Go.Ground.phase }, { on := 2, ground := Go.Ground.phase }, { on := 3, ground := Go.Ground.phase }, { on := 4, ground := Go.Ground.phase }, { on := 5, ground := Go.Ground.phase }, { on := 6, ground := Go.Ground.phase }, { on := 7, ground := Go.Ground.phase }, { on := 8, ground := Go.Ground.phase }, { on := 9, ground := (Go.Ground.textOnly Go.Departure.lateStores) }, { on := 10, ground := (Go.Ground.textOnly Go.Departure.lateStores) }, { on := 11, ground := Go.Ground.phase }, { on := 12, ground := Go.Ground.phase }]) (gd := none) (t := 39) (x := (Go.Operand.tmp 16)) (y := (Go.Operand.tmp 103)) (v := .agg #[.int .i64 n, .slice A55 ((sL n m (gx l k).1 (gx l k).2 L M).length) c56]) HS 0 rfl (0) [.int .i64 n, .slice A55 ((sL n m (gx l k).1 (gx l k).2 L M).length) c56] (by kernel_rfl) (by kernel_rfl) (by kernel_rfl) (by kernel_rfl) (one_ (by kernel_rfl)) (Nat.le_of_ble_eq_true rfl)
                    replace HK := HK.trans hk_ (fun _ h_ => .inr (Nat.le_trans hv_g68 (Nat.le_of_eq (Eq.symm h_))))
                    refine t_s (n := 2) 13 rfl (by kernel_rfl) (by kernel_rfl) hrun_ HK ?_
                    clear hk_ hrun_
                    replace HS : St W (owns []) W70 [blk g68 [.int .i64 n, .slice A55 ((sL n m (gx l k).1 (gx l k).2 L M).length) c56] 39, blk g66 [.int .i64 0, .slice none 0 0] 39, row A55 ((sL n m (gx l k).1 (gx l k).2 L M).length) c56 (ci .i64 (sL n m (gx l k).1 (gx l k).2 L M)) 3 1, row A57 ((sM n m (gx l k).1 (gx l k).2 L M).length) c58 (ci .i64 (sM n m (gx l k).1 (gx l k).2 L M)) 3 1, blk g42 [.int .i64 n, .slice A1 L.length c1] 39, blk g44 [.int .i64 m, .slice A2 M.length c2] 39, blk g30 [.slice (some ⟨a31, 0, none⟩) ws.length c32, .int .i64 n] 53, row (some ⟨a31, 0, none⟩) ws.length c32 (ci .u64 ws) 54 1, blk g36 [.slice (some ⟨a37, 0, none⟩) vs.length c38, .int .i64 m] 53, row (some ⟨a37, 0, none⟩) vs.length c38 (ci .u64 vs) 54 1] := H_
                    clear H_
                    obtain ⟨W71, hrun_, H_, hk_⟩ := ex_ks (P := Tryd.prog) (ty := 0) (ps := "law.go:60") (af := #[{ on := 12, ground := Go.Ground.data }, { on := 9, ground := Go.Ground.data }, { on := 13, ground := Go.Ground.chain }, { on := 0, ground := Go.Ground.phase }, { on := 1, ground := Go.Ground.phase }, { on := 2, ground := Go.Ground.phase }, { on := 3, ground := Go.Ground.phase }, { on := 4, ground := Go.Ground.phase }, { on := 5, ground := Go.Ground.phase }, { on := 6, ground := Go.Ground.phase }, { on := 7, ground := Go.Ground.phase }, { on := 8, ground := Go.Ground.phase }, { on := 9, ground := Go.Ground.phase }, { on := 10, ground := (Go.Ground.textOnly Go.Departure.lateStores) }, { on := 11, ground := Go.Ground.phase }, { on := 12, ground := Go.Ground.phase }, { on := 13, ground := Go.Ground.phase }]) (gd := none) (t := 39) (x := (Go.Operand.tmp 17)) (y := (Go.Operand.tmp 104)) (v := .agg #[.int .i64 m, .slice A57 ((sM n m (gx l k).1 (gx l k).2 L M).length) c58]) HS 1 rfl (0) [.int .i64 m, .slice A57 ((sM n m (gx l k).1 (gx l k).2 L M).length) c58] (by kernel_rfl) (by kernel_rfl) (by kernel_rfl) (by kernel_rfl) (one_ (by kernel_rfl)) (Nat.le_of_ble_eq_true rfl)
                    replace HK := HK.trans hk_ (fun _ h_ => .inr (Nat.le_trans hv_g66 (Nat.le_of_eq (Eq.symm h_))))
                    refine t_s (n := 1) 14 rfl (by kernel_rfl) (by kernel_rfl) hrun_ HK ?_
                    clear hk_ hrun_
                    replace HS : St W (owns []) W71 [blk g68 [.int .i64 n, .slice A55 ((sL n m (gx l k).1 (gx l k).2 L M).length) c56] 39, blk g66 [.int .i64 m, .slice A57 ((sM n m (gx l k).1 (gx l k).2 L M).length) c58] 39, row A55 ((sL n m (gx l k).1 (gx l k).2 L M).length) c56 (ci .i64 (sL n m (gx l k).1 (gx l k).2 L M)) 3 1, row A57 ((sM n m (gx l k).1 (gx l k).2 L M).length) c58 (ci .i64 (sM n m (gx l k).1 (gx l k).2 L M)) 3 1, blk g42 [.int .i64 n, .slice A1 L.length c1] 39, blk g44 [.int .i64 m, .slice A2 M.length c2] 39, blk g30 [.slice (some ⟨a31, 0, none⟩) ws.length c32, .int .i64 n] 53, row (some ⟨a31, 0, none⟩) ws.length c32 (ci .u64 ws) 54 1, blk g36 [.slice (some ⟨a37, 0, none⟩) vs.length c38, .int .i64 m] 53, row (some ⟨a37, 0, none⟩) vs.length c38 (ci .u64 vs) 54 1] := H_
                    clear H_
                    refine t_q (n := 0) 15 (.bool (sB n m (gx l k).1 (gx l k).2 L M)) rfl (by kernel_rfl) (by kernel_rfl) (fun _ _ _ h => h) (fun w' hk => (by kernel_rfl)) HK ?_
                    refine t_done (by kernel_rfl) ?_
                    clear HV HK
                    refine x_then ?_
                    exact ⟨(fun k_ : Nat => List.getD ((.int .i64 n) :: (.int .i64 m) :: (.slice (some ad54) l.length cl) :: (.int .i64 i) :: undef :: undef :: undef :: undef :: ((J48 8)) :: (.pointer (some ⟨g30, 0, none⟩)) :: (.int .i64 0) :: (.pointer (some ⟨g36, 0, none⟩)) :: (.int .i64 0) :: (.pointer (some ⟨g42, 0, none⟩)) :: (.pointer (some ⟨g44, 0, none⟩)) :: (.int .i64 k) :: (.pointer (some ⟨g68, 0, none⟩)) :: (.pointer (some ⟨g66, 0, none⟩)) :: (.bool (sB n m (gx l k).1 (gx l k).2 L M)) :: (.slice (some ad54) l.length cl) :: (.int .i64 (l.length : Int)) :: (.bool false) :: (.bool false) :: (.int .i64 n) :: (.bool false) :: (.bool false) :: undef :: undef :: (.bool false) :: (.bool false) :: (.bool false) :: (.int .i64 m) :: (.bool false) :: (.bool false) :: (.bool false) :: (.int .i64 m) :: (.bool false) :: (.bool false) :: undef :: (.tuple #[.pointer (some ⟨g30, 0, none⟩), .int .i64 0]) :: (.int .i64 n) :: (.tuple #[.pointer (some ⟨g30, 0, none⟩), .int .i64 0]) :: (.pointer (some ⟨g30, 0, none⟩)) :: (.int .i64 0) :: (.tuple #[.pointer (some ⟨g36, 0, none⟩), .int .i64 0]) :: (.int .i64 m) :: (.tuple #[.pointer (some ⟨g36, 0, none⟩), .int .i64 0]) :: (.pointer (some ⟨g36, 0, none⟩)) :: (.int .i64 0) :: (.int .i64 n) :: (.bool false) :: undef :: undef :: undef :: undef :: undef :: undef :: undef :: undef :: undef :: (.int .i64 n) :: (.bool false) :: undef :: undef :: undef :: undef :: undef :: undef :: undef :: undef :: undef :: (.pointer (some ⟨g30, 0, none⟩)) :: (.bool false) :: (.bool false) :: (.pointer (some ⟨g36, 0, none⟩)) :: (.bool false) :: (.bool false) :: (.bool false) :: (.int .i64 0) :: (.bool false) :: (.bool false) :: (.bool false) :: (.int .i64 0) :: (.bool false) :: (.bool false) :: (.int .i64 n) :: (.agg #[.int .i64 n, .slice none 0 0]) :: (.int .i64 m) :: (.agg #[.int .i64 m, .slice none 0 0]) :: (.int .i64 k) :: (.slice (some ad54) l.length cl) :: (.int .i64 (l.length : Int)) :: (.bool true) :: ((J48 93)) :: ((J48 94)) :: (.tuple #[.agg #[.int .i64 n, .slice A55 ((sL n m (gx l k).1 (gx l k).2 L M).length) c56], .agg #[.int .i64 m, .slice A57 ((sM n m (gx l k).1 (gx l k).2 L M).length) c58], .bool (sB n m (gx l k).1 (gx l k).2 L M)]) :: (.agg #[.int .i64 n, .slice A1 L.length c1]) :: (.agg #[.int .i64 m, .slice A2 M.length c2]) :: (.slice (some ad54) l.length cl) :: (.int .i64 k) :: (.pointer (some (ad54.add (k.toNat * 2)))) :: (.agg #[.int .i64 ((gx l k).1), .int .i64 ((gx l k).2)]) :: (.tuple #[.agg #[.int .i64 n, .slice A55 ((sL n m (gx l k).1 (gx l k).2 L M).length) c56], .agg #[.int .i64 m, .slice A57 ((sM n m (gx l k).1 (gx l k).2 L M).length) c58], .bool (sB n m (gx l k).1 (gx l k).2 L M)]) :: (.agg #[.int .i64 n, .slice A55 ((sL n m (gx l k).1 (gx l k).2 L M).length) c56]) :: (.agg #[.int .i64 m, .slice A57 ((sM n m (gx l k).1 (gx l k).2 L M).length) c58]) :: (.bool (sB n m (gx l k).1 (gx l k).2 L M)) :: ((J48 106)) :: ((J48 107)) :: ((J48 108)) :: ((J48 109)) :: ((J48 110)) :: ((J48 111)) :: ((J48 112)) :: ((J48 113)) :: ((J48 114)) :: ((J48 115)) :: ((J48 116)) :: ((J48 117)) :: ((J48 118)) :: ((J48 119)) :: ((J48 120)) :: ((J48 121)) :: ((J48 122)) :: ((J48 123)) :: ((J48 124)) :: ((J48 125)) :: ((J48 126)) :: ((J48 127)) :: ((J48 128)) :: ((J48 129)) :: ((J48 130)) :: ((J48 131)) :: ((J48 132)) :: ((J48 133)) :: ((J48 134)) :: ((J48 135)) :: ((J48 136)) :: ((J48 137)) :: ((J48 138)) :: ((J48 139)) :: ((J48 140)) :: ((J48 141)) :: ((J48 142)) :: ((J48 143)) :: ((J48 144)) :: ((J48 145)) :: ((J48 146)) :: ((J48 147)) :: ((J48 148)) :: ((J48 149)) :: ((J48 150)) :: ((J48 151)) :: ((J48 152)) :: ((J48 153)) :: ((J48 154)) :: ((J48 155)) :: ((J48 156)) :: ((J48 157)) :: ((J48 158)) :: ((J48 159)) :: undef :: []) k_ undef), g68, g66, A55, c56, A57, c58, congrArg Fr (by kernel_rfl), HS⟩
                · skip
                  obtain ⟨g72, W73, hg_, hw_, H_, hk_⟩ := ex_blk HS [.int .i64 0, .slice none 0 0] 39
                  have hv_g72 := Nat.le_trans HK.size (Nat.le_of_eq (Eq.symm hg_))
                  refine t_e2 (n := 9) 11 (.pointer (some ⟨g72, 0, none⟩)) rfl (by kernel_rfl) (by subst hg_; subst hw_; kernel_rfl) (HK.tr hk_) ?_
                  replace HK := HK.tr hk_
                  clear hk_
                  clear hg_ hw_
                  replace HS : St W (owns []) W73 [blk g72 [.int .i64 0, .slice none 0 0] 39, row A1 L.length c1 (ci .i64 L) 3 1, row A2 M.length c2 (ci .i64 M) 3 1, blk g42 [.int .i64 n, .slice A1 L.length c1] 39, blk g44 [.int .i64 m, .slice A2 M.length c2] 39, blk g30 [.slice (some ⟨a31, 0, none⟩) ws.length c32, .int .i64 n] 53, row (some ⟨a31, 0, none⟩) ws.length c32 (ci .u64 ws) 54 1, blk g36 [.slice (some ⟨a37, 0, none⟩) vs.length c38, .int .i64 m] 53, row (some ⟨a37, 0, none⟩) vs.length c38 (ci .u64 vs) 54 1] := H_
                  clear H_
                  refine t_pick2 (n := 8) 6 12 (by kernel_rfl) ?_ ?_
                  · skip
                    refine t_c2 (n := 8) 6 (f := 16) (args := #[.agg #[.int .i64 n, .slice A1 L.length c1], .agg #[.int .i64 m, .slice A2 M.length c2], .agg #[.int .i64 ((gx l k).1), .int .i64 ((gx l k).2)]]) rfl (by kernel_rfl) (R_call #[.agg #[.int .i64 n, .slice A1 L.length c1], .agg #[.int .i64 m, .slice A2 M.length c2], .agg #[.int .i64 ((gx l k).1), .int .i64 ((gx l k).2)]] Tryd.func16 (by kernel_rfl) (by kernel_rfl) (by kernel_rfl)) ?_
                    replace HS : St W (owns []) W73 [row A1 L.length c1 (ci .i64 L) 3 1, row A2 M.length c2 (ci .i64 M) 3 1, blk g72 [.int .i64 0, .slice none 0 0] 39, blk g42 [.int .i64 n, .slice A1 L.length c1] 39, blk g44 [.int .i64 m, .slice A2 M.length c2] 39, blk g30 [.slice (some ⟨a31, 0, none⟩) ws.length c32, .int .i64 n] 53, row (some ⟨a31, 0, none⟩) ws.length c32 (ci .u64 ws) 54 1, blk g36 [.slice (some ⟨a37, 0, none⟩) vs.length c38, .int .i64 m] 53, row (some ⟨a37, 0, none⟩) vs.length c38 (ci .u64 vs) 54 1] := HS.perm (perm_ [1, 2, 0, 3, 4, 5, 6, 7, 8] (by kernel_rfl) rfl)
                    refine (r3do A1 c1 L n A2 c2 M m (gx l k).1 (gx l k).2 _ _ (St.focus (F := [row A1 L.length c1 (ci .i64 L) 3 1, row A2 M.length c2 (ci .i64 M) 3 1]) HS) (by omega) (by omega) hR.srt hR.lim hM.srt hM.lim).mono ?_
                    rintro e W78 ⟨A74, c75, A76, c77, rfl, H_⟩
                    have hkf_ : ∀ k_, owns [row A1 L.length c1 (ci .i64 L) 3 1, row A2 M.length c2 (ci .i64 M) 3 1] k_ → (row A1 L.length c1 (ci .i64 L) 3 1).own k_ ∨ (row A2 M.length c2 (ci .i64 M) 3 1).own k_ := by
                      intro k_ h_; obtain ⟨e_, he_, ho_⟩ := h_; simp only [List.mem_cons, List.not_mem_nil, or_false] at he_; rcases he_ with rfl | rfl <;> first | exact (.inl ho_) | exact (.inr ho_)
                    refine ⟨_, rfl, HK.trans H_.kept (fun _ h_ => .inl (hkf_ _ h_)), ?_⟩
                    replace HK := HK.trans H_.kept (fun _ h_ => .inl (hkf_ _ h_))
                    replace HS : St W (owns []) W78 [row A74 ((sL n m (gx l k).1 (gx l k).2 L M).length) c75 (ci .i64 (sL n m (gx l k).1 (gx l k).2 L M)) 3 1, row A76 ((sM n m (gx l k).1 (gx l k).2 L M).length) c77 (ci .i64 (sM n m (gx l k).1 (gx l k).2 L M)) 3 1, blk g72 [.int .i64 0, .slice none 0 0] 39, blk g42 [.int .i64 n, .slice A1 L.length c1] 39, blk g44 [.int .i64 m, .slice A2 M.length c2] 39, blk g30 [.slice (some ⟨a31, 0, none⟩) ws.length c32, .int .i64 n] 53, row (some ⟨a31, 0, none⟩) ws.length c32 (ci .u64 ws) 54 1, blk g36 [.slice (some ⟨a37, 0, none⟩) vs.length c38, .int .i64 m] 53, row (some ⟨a37, 0, none⟩) vs.length c38 (ci .u64 vs) 54 1] := HS.join (F := [row A1 L.length c1 (ci .i64 L) 3 1, row A2 M.length c2 (ci .i64 M) 3 1]) (G := [row A74 ((sL n m (gx l k).1 (gx l k).2 L M).length) c75 (ci .i64 (sL n m (gx l k).1 (gx l k).2 L M)) 3 1, row A76 ((sM n m (gx l k).1 (gx l k).2 L M).length) c77 (ci .i64 (sM n m (gx l k).1 (gx l k).2 L M)) 3 1]) H_
                    clear H_
                    refine t_q (n := 7) 7 (.tuple #[.agg #[.int .i64 n, .slice A74 ((sL n m (gx l k).1 (gx l k).2 L M).length) c75], .agg #[.int .i64 m, .slice A76 ((sM n m (gx l k).1 (gx l k).2 L M).length) c77], .bool (sB n m (gx l k).1 (gx l k).2 L M)]) rfl (by kernel_rfl) (by kernel_rfl) (fun _ _ _ h => h) (fun w' hk => (by kernel_rfl)) HK ?_
                    refine t_q (n := 6) 8 (.agg #[.int .i64 n, .slice A74 ((sL n m (gx l k).1 (gx l k).2 L M).length) c75]) rfl (by kernel_rfl) (by kernel_rfl) (fun _ _ _ h => h) (fun w' hk => (by kernel_rfl)) HK ?_
                    refine t_q (n := 5) 9 (.agg #[.int .i64 m, .slice A76 ((sM n m (gx l k).1 (gx l k).2 L M).length) c77]) rfl (by kernel_rfl) (by kernel_rfl) (fun _ _ _ h => h) (fun w' hk => (by kernel_rfl)) HK ?_
                    refine t_q (n := 4) 10 (.bool (sB n m (gx l k).1 (gx l k).2 L M)) rfl (by kernel_rfl) (by kernel_rfl) (fun _ _ _ h => h) (fun w' hk => (by kernel_rfl)) HK ?_
                    obtain ⟨g79, W80, hg_, hw_, H_, hk_⟩ := ex_blk HS [.int .i64 0, .slice none 0 0] 39
                    have hv_g79 := Nat.le_trans HK.size (Nat.le_of_eq (Eq.symm hg_))
                    refine t_e (n := 3) 12 (.pointer (some ⟨g79, 0, none⟩)) rfl (by kernel_rfl) (by kernel_rfl) (by subst hg_; subst hw_; kernel_rfl) (HK.tr hk_) ?_
                    replace HK := HK.tr hk_
                    clear hk_
                    clear hg_ hw_
                    replace HS : St W (owns []) W80 [blk g79 [.int .i64 0, .slice none 0 0] 39, row A74 ((sL n m (gx l k).1 (gx l k).2 L M).length) c75 (ci .i64 (sL n m (gx l k).1 (gx l k).2 L M)) 3 1, row A76 ((sM n m (gx l k).1 (gx l k).2 L M).length) c77 (ci .i64 (sM n m (gx l k).1 (gx l k).2 L M)) 3 1, blk g72 [.int .i64 0, .slice none 0 0] 39, blk g42 [.int .i64 n, .slice A1 L.length c1] 39, blk g44 [.int .i64 m, .slice A2 M.length c2] 39, blk g30 [.slice (some ⟨a31, 0, none⟩) ws.length c32, .int .i64 n] 53, row (some ⟨a31, 0, none⟩) ws.length c32 (ci .u64 ws) 54 1, blk g36 [.slice (some ⟨a37, 0, none⟩) vs.length c38, .int .i64 m] 53, row (some ⟨a37, 0, none⟩) vs.length c38 (ci .u64 vs) 54 1] := H_
                    clear H_
                    obtain ⟨W81, hrun_, H_, hk_⟩ := ex_ks (P := Tryd.prog) (ty := 0) (ps := "law.go:60") (af := #[{ on := 11, ground := Go.Ground.data }, { on := 8, ground := Go.Ground.data }, { on := 6, ground := Go.Ground.chain }, { on := 0, ground := Go.Ground.phase }, { on := 1, ground := Go.Ground.phase }, { on := 2, ground := Go.Ground.phase }, { on := 3, ground := Go.Ground.phase }, { on := 4, ground := Go.Ground.phase }, { on := 5, ground := Go.Ground.phase }, { on := 6, ground := Go.Ground.phase }, { on := 7, ground := Go.Ground.phase }, { on := 8, ground := Go.Ground.phase }, { on := 9, ground := (Go.Ground.textOnly Go.Departure.lateStores) }, { on := 10, ground := (Go.Ground.textOnly Go.Departure.lateStores) }, { on := 11, ground := Go.Ground.phase }, { on := 12, ground := Go.Ground.phase }]) (gd := none) (t := 39) (x := (Go.Operand.tmp 16)) (y := (Go.Operand.tmp 103)) (v := .agg #[.int .i64 n, .slice A74 ((sL n m (gx l k).1 (gx l k).2 L M).length) c75]) HS 3 rfl (0) [.int .i64 n, .slice A74 ((sL n m (gx l k).1 (gx l k).2 L M).length) c75] (by kernel_rfl) (by kernel_rfl) (by kernel_rfl) (by kernel_rfl) (one_ (by kernel_rfl)) (Nat.le_of_ble_eq_true rfl)
                    replace HK := HK.trans hk_ (fun _ h_ => .inr (Nat.le_trans hv_g72 (Nat.le_of_eq (Eq.symm h_))))
                    refine t_s (n := 2) 13 rfl (by kernel_rfl) (by kernel_rfl) hrun_ HK ?_
                    clear hk_ hrun_
                    replace HS : St W (owns []) W81 [blk g79 [.int .i64 0, .slice none 0 0] 39, row A74 ((sL n m (gx l k).1 (gx l k).2 L M).length) c75 (ci .i64 (sL n m (gx l k).1 (gx l k).2 L M)) 3 1, row A76 ((sM n m (gx l k).1 (gx l k).2 L M).length) c77 (ci .i64 (sM n m (gx l k).1 (gx l k).2 L M)) 3 1, blk g72 [.int .i64 n, .slice A74 ((sL n m (gx l k).1 (gx l k).2 L M).length) c75] 39, blk g42 [.int .i64 n, .slice A1 L.length c1] 39, blk g44 [.int .i64 m, .slice A2 M.length c2] 39, blk g30 [.slice (some ⟨a31, 0, none⟩) ws.length c32, .int .i64 n] 53, row (some ⟨a31, 0, none⟩) ws.length c32 (ci .u64 ws) 54 1, blk g36 [.slice (some ⟨a37, 0, none⟩) vs.length c38, .int .i64 m] 53, row (some ⟨a37, 0, none⟩) vs.length c38 (ci .u64 vs) 54 1] := H_
                    clear H_
                    obtain ⟨W82, hrun_, H_, hk_⟩ := ex_ks (P := Tryd.prog) (ty := 0) (ps := "law.go:60") (af := #[{ on := 12, ground := Go.Ground.data }, { on := 9, ground := Go.Ground.data }, { on := 13, ground := Go.Ground.chain }, { on := 0, ground := Go.Ground.phase }, { on := 1, ground := Go.Ground.phase }, { on := 2, ground := Go.Ground.phase }, { on := 3, ground := Go.Ground.phase }, { on := 4, ground := Go.Ground.phase }, { on := 5, ground := Go.Ground.phase }, { on := 6, ground := Go.Ground.phase }, { on := 7, ground := Go.Ground.phase }, { on := 8, ground := Go.Ground.phase }, { on := 9, ground := Go.Ground.phase }, { on := 10, ground := (Go.Ground.textOnly Go.Departure.lateStores) }, { on := 11, ground := Go.Ground.phase }, { on := 12, ground := Go.Ground.phase }, { on := 13, ground := Go.Ground.phase }]) (gd := none) (t := 39) (x := (Go.Operand.tmp 17)) (y := (Go.Operand.tmp 104)) (v := .agg #[.int .i64 m, .slice A76 ((sM n m (gx l k).1 (gx l k).2 L M).length) c77]) HS 0 rfl (0) [.int .i64 m, .slice A76 ((sM n m (gx l k).1 (gx l k).2 L M).length) c77] (by kernel_rfl) (by kernel_rfl) (by kernel_rfl) (by kernel_rfl) (one_ (by kernel_rfl)) (Nat.le_of_ble_eq_true rfl)
                    replace HK := HK.trans hk_ (fun _ h_ => .inr (Nat.le_trans hv_g79 (Nat.le_of_eq (Eq.symm h_))))
                    refine t_s (n := 1) 14 rfl (by kernel_rfl) (by kernel_rfl) hrun_ HK ?_
                    clear hk_ hrun_
                    replace HS : St W (owns []) W82 [blk g79 [.int .i64 m, .slice A76 ((sM n m (gx l k).1 (gx l k).2 L M).length) c77] 39, row A74 ((sL n m (gx l k).1 (gx l k).2 L M).length) c75 (ci .i64 (sL n m (gx l k).1 (gx l k).2 L M)) 3 1, row A76 ((sM n m (gx l k).1 (gx l k).2 L M).length) c77 (ci .i64 (sM n m (gx l k).1 (gx l k).2 L M)) 3 1, blk g72 [.int .i64 n, .slice A74 ((sL n m (gx l k).1 (gx l k).2 L M).length) c75] 39, blk g42 [.int .i64 n, .slice A1 L.length c1] 39, blk g44 [.int .i64 m, .slice A2 M.length c2] 39, blk g30 [.slice (some ⟨a31, 0, none⟩) ws.length c32, .int .i64 n] 53, row (some ⟨a31, 0, none⟩) ws.length c32 (ci .u64 ws) 54 1, blk g36 [.slice (some ⟨a37, 0, none⟩) vs.length c38, .int .i64 m] 53, row (some ⟨a37, 0, none⟩) vs.length c38 (ci .u64 vs) 54 1] := H_
                    clear H_
                    refine t_q (n := 0) 15 (.bool (sB n m (gx l k).1 (gx l k).2 L M)) rfl (by kernel_rfl) (by kernel_rfl) (fun _ _ _ h => h) (fun w' hk => (by kernel_rfl)) HK ?_
                    refine t_done (by kernel_rfl) ?_
                    clear HV HK
                    replace HS : St W (owns []) W82 [blk g72 [.int .i64 n, .slice A74 ((sL n m (gx l k).1 (gx l k).2 L M).length) c75] 39, blk g79 [.int .i64 m, .slice A76 ((sM n m (gx l k).1 (gx l k).2 L M).length) c77] 39, row A74 ((sL n m (gx l k).1 (gx l k).2 L M).length) c75 (ci .i64 (sL n m (gx l k).1 (gx l k).2 L M)) 3 1, row A76 ((sM n m (gx l k).1 (gx l k).2 L M).length) c77 (ci .i64 (sM n m (gx l k).1 (gx l k).2 L M)) 3 1, blk g42 [.int .i64 n, .slice A1 L.length c1] 39, blk g44 [.int .i64 m, .slice A2 M.length c2] 39, blk g30 [.slice (some ⟨a31, 0, none⟩) ws.length c32, .int .i64 n] 53, row (some ⟨a31, 0, none⟩) ws.length c32 (ci .u64 ws) 54 1, blk g36 [.slice (some ⟨a37, 0, none⟩) vs.length c38, .int .i64 m] 53, row (some ⟨a37, 0, none⟩) vs.length c38 (ci .u64 vs) 54 1] := St.tail (F := []) (HS.perm (perm_ [3, 0, 1, 2, 4, 5, 6, 7, 8, 9] (by kernel_rfl) rfl))
                    refine x_then ?_
                    exact ⟨(fun k_ : Nat => List.getD ((.int .i64 n) :: (.int .i64 m) :: (.slice (some ad54) l.length cl) :: (.int .i64 i) :: undef :: undef :: undef :: undef :: ((J48 8)) :: (.pointer (some ⟨g30, 0, none⟩)) :: (.int .i64 0) :: (.pointer (some ⟨g36, 0, none⟩)) :: (.int .i64 0) :: (.pointer (some ⟨g42, 0, none⟩)) :: (.pointer (some ⟨g44, 0, none⟩)) :: (.int .i64 k) :: (.pointer (some ⟨g72, 0, none⟩)) :: (.pointer (some ⟨g79, 0, none⟩)) :: (.bool (sB n m (gx l k).1 (gx l k).2 L M)) :: (.slice (some ad54) l.length cl) :: (.int .i64 (l.length : Int)) :: (.bool false) :: (.bool false) :: (.int .i64 n) :: (.bool false) :: (.bool false) :: undef :: undef :: (.bool false) :: (.bool false) :: (.bool false) :: (.int .i64 m) :: (.bool false) :: (.bool false) :: (.bool false) :: (.int .i64 m) :: (.bool false) :: (.bool false) :: undef :: (.tuple #[.pointer (some ⟨g30, 0, none⟩), .int .i64 0]) :: (.int .i64 n) :: (.tuple #[.pointer (some ⟨g30, 0, none⟩), .int .i64 0]) :: (.pointer (some ⟨g30, 0, none⟩)) :: (.int .i64 0) :: (.tuple #[.pointer (some ⟨g36, 0, none⟩), .int .i64 0]) :: (.int .i64 m) :: (.tuple #[.pointer (some ⟨g36, 0, none⟩), .int .i64 0]) :: (.pointer (some ⟨g36, 0, none⟩)) :: (.int .i64 0) :: (.int .i64 n) :: (.bool false) :: undef :: undef :: undef :: undef :: undef :: undef :: undef :: undef :: undef :: (.int .i64 n) :: (.bool false) :: undef :: undef :: undef :: undef :: undef :: undef :: undef :: undef :: undef :: (.pointer (some ⟨g30, 0, none⟩)) :: (.bool false) :: (.bool false) :: (.pointer (some ⟨g36, 0, none⟩)) :: (.bool false) :: (.bool false) :: (.bool false) :: (.int .i64 0) :: (.bool false) :: (.bool false) :: (.bool false) :: (.int .i64 0) :: (.bool false) :: (.bool false) :: (.int .i64 n) :: (.agg #[.int .i64 n, .slice none 0 0]) :: (.int .i64 m) :: (.agg #[.int .i64 m, .slice none 0 0]) :: (.int .i64 k) :: (.slice (some ad54) l.length cl) :: (.int .i64 (l.length : Int)) :: (.bool true) :: ((J48 93)) :: ((J48 94)) :: (.tuple #[.agg #[.int .i64 n, .slice A74 ((sL n m (gx l k).1 (gx l k).2 L M).length) c75], .agg #[.int .i64 m, .slice A76 ((sM n m (gx l k).1 (gx l k).2 L M).length) c77], .bool (sB n m (gx l k).1 (gx l k).2 L M)]) :: (.agg #[.int .i64 n, .slice A1 L.length c1]) :: (.agg #[.int .i64 m, .slice A2 M.length c2]) :: (.slice (some ad54) l.length cl) :: (.int .i64 k) :: (.pointer (some (ad54.add (k.toNat * 2)))) :: (.agg #[.int .i64 ((gx l k).1), .int .i64 ((gx l k).2)]) :: (.tuple #[.agg #[.int .i64 n, .slice A74 ((sL n m (gx l k).1 (gx l k).2 L M).length) c75], .agg #[.int .i64 m, .slice A76 ((sM n m (gx l k).1 (gx l k).2 L M).length) c77], .bool (sB n m (gx l k).1 (gx l k).2 L M)]) :: (.agg #[.int .i64 n, .slice A74 ((sL n m (gx l k).1 (gx l k).2 L M).length) c75]) :: (.agg #[.int .i64 m, .slice A76 ((sM n m (gx l k).1 (gx l k).2 L M).length) c77]) :: (.bool (sB n m (gx l k).1 (gx l k).2 L M)) :: ((J48 106)) :: ((J48 107)) :: ((J48 108)) :: ((J48 109)) :: ((J48 110)) :: ((J48 111)) :: ((J48 112)) :: ((J48 113)) :: ((J48 114)) :: ((J48 115)) :: ((J48 116)) :: ((J48 117)) :: ((J48 118)) :: ((J48 119)) :: ((J48 120)) :: ((J48 121)) :: ((J48 122)) :: ((J48 123)) :: ((J48 124)) :: ((J48 125)) :: ((J48 126)) :: ((J48 127)) :: ((J48 128)) :: ((J48 129)) :: ((J48 130)) :: ((J48 131)) :: ((J48 132)) :: ((J48 133)) :: ((J48 134)) :: ((J48 135)) :: ((J48 136)) :: ((J48 137)) :: ((J48 138)) :: ((J48 139)) :: ((J48 140)) :: ((J48 141)) :: ((J48 142)) :: ((J48 143)) :: ((J48 144)) :: ((J48 145)) :: ((J48 146)) :: ((J48 147)) :: ((J48 148)) :: ((J48 149)) :: ((J48 150)) :: ((J48 151)) :: ((J48 152)) :: ((J48 153)) :: ((J48 154)) :: ((J48 155)) :: ((J48 156)) :: ((J48 157)) :: ((J48 158)) :: ((J48 159)) :: undef :: []) k_ undef), g72, g79, A74, c75, A76, c77, congrArg Fr (by kernel_rfl), HS⟩
                  · skip
                    obtain ⟨g83, W84, hg_, hw_, H_, hk_⟩ := ex_blk HS [.int .i64 0, .slice none 0 0] 39
                    have hv_g83 := Nat.le_trans HK.size (Nat.le_of_eq (Eq.symm hg_))
                    refine t_e2 (n := 8) 12 (.pointer (some ⟨g83, 0, none⟩)) rfl (by kernel_rfl) (by subst hg_; subst hw_; kernel_rfl) (HK.tr hk_) ?_
                    replace HK := HK.tr hk_
                    clear hk_
                    clear hg_ hw_
                    replace HS : St W (owns []) W84 [blk g83 [.int .i64 0, .slice none 0 0] 39, blk g72 [.int .i64 0, .slice none 0 0] 39, row A1 L.length c1 (ci .i64 L) 3 1, row A2 M.length c2 (ci .i64 M) 3 1, blk g42 [.int .i64 n, .slice A1 L.length c1] 39, blk g44 [.int .i64 m, .slice A2 M.length c2] 39, blk g30 [.slice (some ⟨a31, 0, none⟩) ws.length c32, .int .i64 n] 53, row (some ⟨a31, 0, none⟩) ws.length c32 (ci .u64 ws) 54 1, blk g36 [.slice (some ⟨a37, 0, none⟩) vs.length c38, .int .i64 m] 53, row (some ⟨a37, 0, none⟩) vs.length c38 (ci .u64 vs) 54 1] := H_
                    clear H_
                    refine t_c (n := 7) 6 (f := 16) (args := #[.agg #[.int .i64 n, .slice A1 L.length c1], .agg #[.int .i64 m, .slice A2 M.length c2], .agg #[.int .i64 ((gx l k).1), .int .i64 ((gx l k).2)]]) rfl (by kernel_rfl) (by kernel_rfl) (R_call #[.agg #[.int .i64 n, .slice A1 L.length c1], .agg #[.int .i64 m, .slice A2 M.length c2], .agg #[.int .i64 ((gx l k).1), .int .i64 ((gx l k).2)]] Tryd.func16 (by kernel_rfl) (by kernel_rfl) (by kernel_rfl)) ?_
                    replace HS : St W (owns []) W84 [row A1 L.length c1 (ci .i64 L) 3 1, row A2 M.length c2 (ci .i64 M) 3 1, blk g83 [.int .i64 0, .slice none 0 0] 39, blk g72 [.int .i64 0, .slice none 0 0] 39, blk g42 [.int .i64 n, .slice A1 L.length c1] 39, blk g44 [.int .i64 m, .slice A2 M.length c2] 39, blk g30 [.slice (some ⟨a31, 0, none⟩) ws.length c32, .int .i64 n] 53, row (some ⟨a31, 0, none⟩) ws.length c32 (ci .u64 ws) 54 1, blk g36 [.slice (some ⟨a37, 0, none⟩) vs.length c38, .int .i64 m] 53, row (some ⟨a37, 0, none⟩) vs.length c38 (ci .u64 vs) 54 1] := HS.perm (perm_ [2, 3, 0, 1, 4, 5, 6, 7, 8, 9] (by kernel_rfl) rfl)
                    refine (r3do A1 c1 L n A2 c2 M m (gx l k).1 (gx l k).2 _ _ (St.focus (F := [row A1 L.length c1 (ci .i64 L) 3 1, row A2 M.length c2 (ci .i64 M) 3 1]) HS) (by omega) (by omega) hR.srt hR.lim hM.srt hM.lim).mono ?_
                    rintro e W89 ⟨A85, c86, A87, c88, rfl, H_⟩
                    have hkf_ : ∀ k_, owns [row A1 L.length c1 (ci .i64 L) 3 1, row A2 M.length c2 (ci .i64 M) 3 1] k_ → (row A1 L.length c1 (ci .i64 L) 3 1).own k_ ∨ (row A2 M.length c2 (ci .i64 M) 3 1).own k_ := by
                      intro k_ h_; obtain ⟨e_, he_, ho_⟩ := h_; simp only [List.mem_cons, List.not_mem_nil, or_false] at he_; rcases he_ with rfl | rfl <;> first | exact (.inl ho_) | exact (.inr ho_)
                    refine ⟨_, rfl, HK.trans H_.kept (fun _ h_ => .inl (hkf_ _ h_)), ?_⟩
                    replace HK := HK.trans H_.kept (fun _ h_ => .inl (hkf_ _ h_))
                    replace HS : St W (owns []) W89 [row A85 ((sL n m (gx l k).1 (gx l k).2 L M).length) c86 (ci .i64 (sL n m (gx l k).1 (gx l k).2 L M)) 3 1, row A87 ((sM n m (gx l k).1 (gx l k).2 L M).length) c88 (ci .i64 (sM n m (gx l k).1 (gx l k).2 L M)) 3 1, blk g83 [.int .i64 0, .slice none 0 0] 39, blk g72 [.int .i64 0, .slice none 0 0] 39, blk g42 [.int .i64 n, .slice A1 L.length c1] 39, blk g44 [.int .i64 m, .slice A2 M.length c2] 39, blk g30 [.slice (some ⟨a31, 0, none⟩) ws.length c32, .int .i64 n] 53, row (some ⟨a31, 0, none⟩) ws.length c32 (ci .u64 ws) 54 1, blk g36 [.slice (some ⟨a37, 0, none⟩) vs.length c38, .int .i64 m] 53, row (some ⟨a37, 0, none⟩) vs.length c38 (ci .u64 vs) 54 1] := HS.join (F := [row A1 L.length c1 (ci .i64 L) 3 1, row A2 M.length c2 (ci .i64 M) 3 1]) (G := [row A85 ((sL n m (gx l k).1 (gx l k).2 L M).length) c86 (ci .i64 (sL n m (gx l k).1 (gx l k).2 L M)) 3 1, row A87 ((sM n m (gx l k).1 (gx l k).2 L M).length) c88 (ci .i64 (sM n m (gx l k).1 (gx l k).2 L M)) 3 1]) H_
                    clear H_
                    refine t_q (n := 6) 7 (.tuple #[.agg #[.int .i64 n, .slice A85 ((sL n m (gx l k).1 (gx l k).2 L M).length) c86], .agg #[.int .i64 m, .slice A87 ((sM n m (gx l k).1 (gx l k).2 L M).length) c88], .bool (sB n m (gx l k).1 (gx l k).2 L M)]) rfl (by kernel_rfl) (by kernel_rfl) (fun _ _ _ h => h) (fun w' hk => (by kernel_rfl)) HK ?_
                    refine t_q (n := 5) 8 (.agg #[.int .i64 n, .slice A85 ((sL n m (gx l k).1 (gx l k).2 L M).length) c86]) rfl (by kernel_rfl) (by kernel_rfl) (fun _ _ _ h => h) (fun w' hk => (by kernel_rfl)) HK ?_
                    refine t_q (n := 4) 9 (.agg #[.int .i64 m, .slice A87 ((sM n m (gx l k).1 (gx l k).2 L M).length) c88]) rfl (by kernel_rfl) (by kernel_rfl) (fun _ _ _ h => h) (fun w' hk => (by kernel_rfl)) HK ?_
                    refine t_q (n := 3) 10 (.bool (sB n m (gx l k).1 (gx l k).2 L M)) rfl (by kernel_rfl) (by kernel_rfl) (fun _ _ _ h => h) (fun w' hk => (by kernel_rfl)) HK ?_
                    obtain ⟨W90, hrun_, H_, hk_⟩ := ex_ks (P := Tryd.prog) (ty := 0) (ps := "law.go:60") (af := #[{ on := 11, ground := Go.Ground.data }, { on := 8, ground := Go.Ground.data }, { on := 6, ground := Go.Ground.chain }, { on := 0, ground := Go.Ground.phase }, { on := 1, ground := Go.Ground.phase }, { on := 2, ground := Go.Ground.phase }, { on := 3, ground := Go.Ground.phase }, { on := 4, ground := Go.Ground.phase }, { on := 5, ground := Go.Ground.phase }, { on := 6, ground := Go.Ground.phase }, { on := 7, ground := Go.Ground.phase }, { on := 8, ground := Go.Ground.phase }, { on := 9, ground := (Go.Ground.textOnly Go.Departure.lateStores) }, { on := 10, ground := (Go.Ground.textOnly Go.Departure.lateStores) }, { on := 11, ground := Go.Ground.phase }, { on := 12, ground := Go.Ground.phase }]) (gd := none) (t := 39) (x := (Go.Operand.tmp 16)) (y := (Go.Operand.tmp 103)) (v := .agg #[.int .i64 n, .slice A85 ((sL n m (gx l k).1 (gx l k).2 L M).length) c86]) HS 3 rfl (0) [.int .i64 n, .slice A85 ((sL n m (gx l k).1 (gx l k).2 L M).length) c86] (by kernel_rfl) (by kernel_rfl) (by kernel_rfl) (by kernel_rfl) (one_ (by kernel_rfl)) (Nat.le_of_ble_eq_true rfl)
                    replace HK := HK.trans hk_ (fun _ h_ => .inr (Nat.le_trans hv_g72 (Nat.le_of_eq (Eq.symm h_))))
                    refine t_s (n := 2) 13 rfl (by kernel_rfl) (by kernel_rfl) hrun_ HK ?_
                    clear hk_ hrun_
                    replace HS : St W (owns []) W90 [row A85 ((sL n m (gx l k).1 (gx l k).2 L M).length) c86 (ci .i64 (sL n m (gx l k).1 (gx l k).2 L M)) 3 1, row A87 ((sM n m (gx l k).1 (gx l k).2 L M).length) c88 (ci .i64 (sM n m (gx l k).1 (gx l k).2 L M)) 3 1, blk g83 [.int .i64 0, .slice none 0 0] 39, blk g72 [.int .i64 n, .slice A85 ((sL n m (gx l k).1 (gx l k).2 L M).length) c86] 39, blk g42 [.int .i64 n, .slice A1 L.length c1] 39, blk g44 [.int .i64 m, .slice A2 M.length c2] 39, blk g30 [.slice (some ⟨a31, 0, none⟩) ws.length c32, .int .i64 n] 53, row (some ⟨a31, 0, none⟩) ws.length c32 (ci .u64 ws) 54 1, blk g36 [.slice (some ⟨a37, 0, none⟩) vs.length c38, .int .i64 m] 53, row (some ⟨a37, 0, none⟩) vs.length c38 (ci .u64 vs) 54 1] := H_
                    clear H_
                    obtain ⟨W91, hrun_, H_, hk_⟩ := ex_ks (P := Tryd.prog) (ty := 0) (ps := "law.go:60") (af := #[{ on := 12, ground := Go.Ground.data }, { on := 9, ground := Go.Ground.data }, { on := 13, ground := Go.Ground.chain }, { on := 0, ground := Go.Ground.phase }, { on := 1, ground := Go.Ground.phase }, { on := 2, ground := Go.Ground.phase }, { on := 3, ground := Go.Ground.phase }, { on := 4, ground := Go.Ground.phase }, { on := 5, ground := Go.Ground.phase }, { on := 6, ground := Go.Ground.phase }, { on := 7, ground := Go.Ground.phase }, { on := 8, ground := Go.Ground.phase }, { on := 9, ground := Go.Ground.phase }, { on := 10, ground := (Go.Ground.textOnly Go.Departure.lateStores) }, { on := 11, ground := Go.Ground.phase }, { on := 12, ground := Go.Ground.phase }, { on := 13, ground := Go.Ground.phase }]) (gd := none) (t := 39) (x := (Go.Operand.tmp 17)) (y := (Go.Operand.tmp 104)) (v := .agg #[.int .i64 m, .slice A87 ((sM n m (gx l k).1 (gx l k).2 L M).length) c88]) HS 2 rfl (0) [.int .i64 m, .slice A87 ((sM n m (gx l k).1 (gx l k).2 L M).length) c88] (by kernel_rfl) (by kernel_rfl) (by kernel_rfl) (by kernel_rfl) (one_ (by kernel_rfl)) (Nat.le_of_ble_eq_true rfl)
                    replace HK := HK.trans hk_ (fun _ h_ => .inr (Nat.le_trans hv_g83 (Nat.le_of_eq (Eq.symm h_))))
                    refine t_s (n := 1) 14 rfl (by kernel_rfl) (by kernel_rfl) hrun_ HK ?_
                    clear hk_ hrun_
                    replace HS : St W (owns []) W91 [row A85 ((sL n m (gx l k).1 (gx l k).2 L M).length) c86 (ci .i64 (sL n m (gx l k).1 (gx l k).2 L M)) 3 1, row A87 ((sM n m (gx l k).1 (gx l k).2 L M).length) c88 (ci .i64 (sM n m (gx l k).1 (gx l k).2 L M)) 3 1, blk g83 [.int .i64 m, .slice A87 ((sM n m (gx l k).1 (gx l k).2 L M).length) c88] 39, blk g72 [.int .i64 n, .slice A85 ((sL n m (gx l k).1 (gx l k).2 L M).length) c86] 39, blk g42 [.int .i64 n, .slice A1 L.length c1] 39, blk g44 [.int .i64 m, .slice A2 M.length c2] 39, blk g30 [.slice (some ⟨a31, 0, none⟩) ws.length c32, .int .i64 n] 53, row (some ⟨a31, 0, none⟩) ws.length c32 (ci .u64 ws) 54 1, blk g36 [.slice (some ⟨a37, 0, none⟩) vs.length c38, .int .i64 m] 53, row (some ⟨a37, 0, none⟩) vs.length c38 (ci .u64 vs) 54 1] := H_
                    clear H_
                    refine t_q (n := 0) 15 (.bool (sB n m (gx l k).1 (gx l k).2 L M)) rfl (by kernel_rfl) (by kernel_rfl) (fun _ _ _ h => h) (fun w' hk => (by kernel_rfl)) HK ?_
                    refine t_done (by kernel_rfl) ?_
                    clear HV HK
                    replace HS : St W (owns []) W91 [blk g72 [.int .i64 n, .slice A85 ((sL n m (gx l k).1 (gx l k).2 L M).length) c86] 39, blk g83 [.int .i64 m, .slice A87 ((sM n m (gx l k).1 (gx l k).2 L M).length) c88] 39, row A85 ((sL n m (gx l k).1 (gx l k).2 L M).length) c86 (ci .i64 (sL n m (gx l k).1 (gx l k).2 L M)) 3 1, row A87 ((sM n m (gx l k).1 (gx l k).2 L M).length) c88 (ci .i64 (sM n m (gx l k).1 (gx l k).2 L M)) 3 1, blk g42 [.int .i64 n, .slice A1 L.length c1] 39, blk g44 [.int .i64 m, .slice A2 M.length c2] 39, blk g30 [.slice (some ⟨a31, 0, none⟩) ws.length c32, .int .i64 n] 53, row (some ⟨a31, 0, none⟩) ws.length c32 (ci .u64 ws) 54 1, blk g36 [.slice (some ⟨a37, 0, none⟩) vs.length c38, .int .i64 m] 53, row (some ⟨a37, 0, none⟩) vs.length c38 (ci .u64 vs) 54 1] := St.tail (F := []) (HS.perm (perm_ [3, 2, 0, 1, 4, 5, 6, 7, 8, 9] (by kernel_rfl) rfl))
                    refine x_then ?_
                    exact ⟨(fun k_ : Nat => List.getD ((.int .i64 n) :: (.int .i64 m) :: (.slice (some ad54) l.length cl) :: (.int .i64 i) :: undef :: undef :: undef :: undef :: ((J48 8)) :: (.pointer (some ⟨g30, 0, none⟩)) :: (.int .i64 0) :: (.pointer (some ⟨g36, 0, none⟩)) :: (.int .i64 0) :: (.pointer (some ⟨g42, 0, none⟩)) :: (.pointer (some ⟨g44, 0, none⟩)) :: (.int .i64 k) :: (.pointer (some ⟨g72, 0, none⟩)) :: (.pointer (some ⟨g83, 0, none⟩)) :: (.bool (sB n m (gx l k).1 (gx l k).2 L M)) :: (.slice (some ad54) l.length cl) :: (.int .i64 (l.length : Int)) :: (.bool false) :: (.bool false) :: (.int .i64 n) :: (.bool false) :: (.bool false) :: undef :: undef :: (.bool false) :: (.bool false) :: (.bool false) :: (.int .i64 m) :: (.bool false) :: (.bool false) :: (.bool false) :: (.int .i64 m) :: (.bool false) :: (.bool false) :: undef :: (.tuple #[.pointer (some ⟨g30, 0, none⟩), .int .i64 0]) :: (.int .i64 n) :: (.tuple #[.pointer (some ⟨g30, 0, none⟩), .int .i64 0]) :: (.pointer (some ⟨g30, 0, none⟩)) :: (.int .i64 0) :: (.tuple #[.pointer (some ⟨g36, 0, none⟩), .int .i64 0]) :: (.int .i64 m) :: (.tuple #[.pointer (some ⟨g36, 0, none⟩), .int .i64 0]) :: (.pointer (some ⟨g36, 0, none⟩)) :: (.int .i64 0) :: (.int .i64 n) :: (.bool false) :: undef :: undef :: undef :: undef :: undef :: undef :: undef :: undef :: undef :: (.int .i64 n) :: (.bool false) :: undef :: undef :: undef :: undef :: undef :: undef :: undef :: undef :: undef :: (.pointer (some ⟨g30, 0, none⟩)) :: (.bool false) :: (.bool false) :: (.pointer (some ⟨g36, 0, none⟩)) :: (.bool false) :: (.bool false) :: (.bool false) :: (.int .i64 0) :: (.bool false) :: (.bool false) :: (.bool false) :: (.int .i64 0) :: (.bool false) :: (.bool false) :: (.int .i64 n) :: (.agg #[.int .i64 n, .slice none 0 0]) :: (.int .i64 m) :: (.agg #[.int .i64 m, .slice none 0 0]) :: (.int .i64 k) :: (.slice (some ad54) l.length cl) :: (.int .i64 (l.length : Int)) :: (.bool true) :: ((J48 93)) :: ((J48 94)) :: (.tuple #[.agg #[.int .i64 n, .slice A85 ((sL n m (gx l k).1 (gx l k).2 L M).length) c86], .agg #[.int .i64 m, .slice A87 ((sM n m (gx l k).1 (gx l k).2 L M).length) c88], .bool (sB n m (gx l k).1 (gx l k).2 L M)]) :: (.agg #[.int .i64 n, .slice A1 L.length c1]) :: (.agg #[.int .i64 m, .slice A2 M.length c2]) :: (.slice (some ad54) l.length cl) :: (.int .i64 k) :: (.pointer (some (ad54.add (k.toNat * 2)))) :: (.agg #[.int .i64 ((gx l k).1), .int .i64 ((gx l k).2)]) :: (.tuple #[.agg #[.int .i64 n, .slice A85 ((sL n m (gx l k).1 (gx l k).2 L M).length) c86], .agg #[.int .i64 m, .slice A87 ((sM n m (gx l k).1 (gx l k).2 L M).length) c88], .bool (sB n m (gx l k).1 (gx l k).2 L M)]) :: (.agg #[.int .i64 n, .slice A85 ((sL n m (gx l k).1 (gx l k).2 L M).length) c86]) :: (.agg #[.int .i64 m, .slice A87 ((sM n m (gx l k).1 (gx l k).2 L M).length) c88]) :: (.bool (sB n m (gx l k).1 (gx l k).2 L M)) :: ((J48 106)) :: ((J48 107)) :: ((J48 108)) :: ((J48 109)) :: ((J48 110)) :: ((J48 111)) :: ((J48 112)) :: ((J48 113)) :: ((J48 114)) :: ((J48 115)) :: ((J48 116)) :: ((J48 117)) :: ((J48 118)) :: ((J48 119)) :: ((J48 120)) :: ((J48 121)) :: ((J48 122)) :: ((J48 123)) :: ((J48 124)) :: ((J48 125)) :: ((J48 126)) :: ((J48 127)) :: ((J48 128)) :: ((J48 129)) :: ((J48 130)) :: ((J48 131)) :: ((J48 132)) :: ((J48 133)) :: ((J48 134)) :: ((J48 135)) :: ((J48 136)) :: ((J48 137)) :: ((J48 138)) :: ((J48 139)) :: ((J48 140)) :: ((J48 141)) :: ((J48 142)) :: ((J48 143)) :: ((J48 144)) :: ((J48 145)) :: ((J48 146)) :: ((J48 147)) :: ((J48 148)) :: ((J48 149)) :: ((J48 150)) :: ((J48 151)) :: ((J48 152)) :: ((J48 153)) :: ((J48 154)) :: ((J48 155)) :: ((J48 156)) :: ((J48 157)) :: ((J48 158)) :: ((J48 159)) :: undef :: []) k_ undef), g72, g83, A85, c86, A87, c88, congrArg Fr (by kernel_rfl), HS⟩
                · skip
                  obtain ⟨g92, W93, hg_, hw_, H_, hk_⟩ := ex_blk HS [.int .i64 0, .slice none 0 0] 39
                  have hv_g92 := Nat.le_trans HK.size (Nat.le_of_eq (Eq.symm hg_))
                  refine t_e2 (n := 9) 12 (.pointer (some ⟨g92, 0, none⟩)) rfl (by kernel_rfl) (by subst hg_; subst hw_; kernel_rfl) (HK.tr hk_) ?_
                  replace HK := HK.tr hk_
                  clear hk_
                  clear hg_ hw_
                  replace HS : St W (owns []) W93 [blk g92 [.int .i64 0, .slice none 0 0] 39, row A1 L.length c1 (ci .i64 L) 3 1, row A2 M.length c2 (ci .i64 M) 3 1, blk g42 [.int .i64 n, .slice A1 L.length c1] 39, blk g44 [.int .i64 m, .slice A2 M.length c2] 39, blk g30 [.slice (some ⟨a31, 0, none⟩) ws.length c32, .int .i64 n] 53, row (some ⟨a31, 0, none⟩) ws.length c32 (ci .u64 ws) 54 1, blk g36 [.slice (some ⟨a37, 0, none⟩) vs.length c38, .int .i64 m] 53, row (some ⟨a37, 0, none⟩) vs.length c38 (ci .u64 vs) 54 1] := H_
                  clear H_
                  refine t_pick2 (n := 8) 6 11 (by kernel_rfl) ?_ ?_
                  · skip
                    refine t_c2 (n := 8) 6 (f := 16) (args := #[.agg #[.int .i64 n, .slice A1 L.length c1], .agg #[.int .i64 m, .slice A2 M.length c2], .agg #[.int .i64 ((gx l k).1), .int .i64 ((gx l k).2)]]) rfl (by kernel_rfl) (R_call #[.agg #[.int .i64 n, .slice A1 L.length c1], .agg #[.int .i64 m, .slice A2 M.length c2], .agg #[.int .i64 ((gx l k).1), .int .i64 ((gx l k).2)]] Tryd.func16 (by kernel_rfl) (by kernel_rfl) (by kernel_rfl)) ?_
                    replace HS : St W (owns []) W93 [row A1 L.length c1 (ci .i64 L) 3 1, row A2 M.length c2 (ci .i64 M) 3 1, blk g92 [.int .i64 0, .slice none 0 0] 39, blk g42 [.int .i64 n, .slice A1 L.length c1] 39, blk g44 [.int .i64 m, .slice A2 M.length c2] 39, blk g30 [.slice (some ⟨a31, 0, none⟩) ws.length c32, .int .i64 n] 53, row (some ⟨a31, 0, none⟩) ws.length c32 (ci .u64 ws) 54 1, blk g36 [.slice (some ⟨a37, 0, none⟩) vs.length c38, .int .i64 m] 53, row (some ⟨a37, 0, none⟩) vs.length c38 (ci .u64 vs) 54 1] := HS.perm (perm_ [1, 2, 0, 3, 4, 5, 6, 7, 8] (by kernel_rfl) rfl)
                    refine (r3do A1 c1 L n A2 c2 M m (gx l k).1 (gx l k).2 _ _ (St.focus (F := [row A1 L.length c1 (ci .i64 L) 3 1, row A2 M.length c2 (ci .i64 M) 3 1]) HS) (by omega) (by omega) hR.srt hR.lim hM.srt hM.lim).mono ?_
                    rintro e W98 ⟨A94, c95, A96, c97, rfl, H_⟩
                    have hkf_ : ∀ k_, owns [row A1 L.length c1 (ci .i64 L) 3 1, row A2 M.length c2 (ci .i64 M) 3 1] k_ → (row A1 L.length c1 (ci .i64 L) 3 1).own k_ ∨ (row A2 M.length c2 (ci .i64 M) 3 1).own k_ := by
                      intro k_ h_; obtain ⟨e_, he_, ho_⟩ := h_; simp only [List.mem_cons, List.not_mem_nil, or_false] at he_; rcases he_ with rfl | rfl <;> first | exact (.inl ho_) | exact (.inr ho_)
                    refine ⟨_, rfl, HK.trans H_.kept (fun _ h_ => .inl (hkf_ _ h_)), ?_⟩
                    replace HK := HK.trans H_.kept (fun _ h_ => .inl (hkf_ _ h_))
                    replace HS : St W (owns []) W98 [row A94 ((sL n m (gx l k).1 (gx l k).2 L M).length) c95 (ci .i64 (sL n m (gx l k).1 (gx l k).2 L M)) 3 1, row A96 ((sM n m (gx l k).1 (gx l k).2 L M).length) c97 (ci .i64 (sM n m (gx l k).1 (gx l k).2 L M)) 3 1, blk g92 [.int .i64 0, .slice none 0 0] 39, blk g42 [.int .i64 n, .slice A1 L.length c1] 39, blk g44 [.int .i64 m, .slice A2 M.length c2] 39, blk g30 [.slice (some ⟨a31, 0, none⟩) ws.length c32, .int .i64 n] 53, row (some ⟨a31, 0, none⟩) ws.length c32 (ci .u64 ws) 54 1, blk g36 [.slice (some ⟨a37, 0, none⟩) vs.length c38, .int .i64 m] 53, row (some ⟨a37, 0, none⟩) vs.length c38 (ci .u64 vs) 54 1] := HS.join (F := [row A1 L.length c1 (ci .i64 L) 3 1, row A2 M.length c2 (ci .i64 M) 3 1]) (G := [row A94 ((sL n m (gx l k).1 (gx l k).2 L M).length) c95 (ci .i64 (sL n m (gx l k).1 (gx l k).2 L M)) 3 1, row A96 ((sM n m (gx l k).1 (gx l k).2 L M).length) c97 (ci .i64 (sM n m (gx l k).1 (gx l k).2 L M)) 3 1]) H_
                    clear H_
                    refine t_q (n := 7) 7 (.tuple #[.agg #[.int .i64 n, .slice A94 ((sL n m (gx l k).1 (gx l k).2 L M).length) c95], .agg #[.int .i64 m, .slice A96 ((sM n m (gx l k).1 (gx l k).2 L M).length) c97], .bool (sB n m (gx l k).1 (gx l k).2 L M)]) rfl (by kernel_rfl) (by kernel_rfl) (fun _ _ _ h => h) (fun w' hk => (by kernel_rfl)) HK ?_
                    refine t_q (n := 6) 8 (.agg #[.int .i64 n, .slice A94 ((sL n m (gx l k).1 (gx l k).2 L M).length) c95]) rfl (by kernel_rfl) (by kernel_rfl) (fun _ _ _ h => h) (fun w' hk => (by kernel_rfl)) HK ?_
                    refine t_q (n := 5) 9 (.agg #[.int .i64 m, .slice A96 ((sM n m (gx l k).1 (gx l k).2 L M).length) c97]) rfl (by kernel_rfl) (by kernel_rfl) (fun _ _ _ h => h) (fun w' hk => (by kernel_rfl)) HK ?_
                    refine t_q (n := 4) 10 (.bool (sB n m (gx l k).1 (gx l k).2 L M)) rfl (by kernel_rfl) (by kernel_rfl) (fun _ _ _ h => h) (fun w' hk => (by kernel_rfl)) HK ?_
                    obtain ⟨g99, W100, hg_, hw_, H_, hk_⟩ := ex_blk HS [.int .i64 0, .slice none 0 0] 39
                    have hv_g99 := Nat.le_trans HK.size (Nat.le_of_eq (Eq.symm hg_))
                    refine t_e (n := 3) 11 (.pointer (some ⟨g99, 0, none⟩)) rfl (by kernel_rfl) (by kernel_rfl) (by subst hg_; subst hw_; kernel_rfl) (HK.tr hk_) ?_
                    replace HK := HK.tr hk_
                    clear hk_
                    clear hg_ hw_
                    replace HS : St W (owns []) W100 [blk g99 [.int .i64 0, .slice none 0 0] 39, row A94 ((sL n m (gx l k).1 (gx l k).2 L M).length) c95 (ci .i64 (sL n m (gx l k).1 (gx l k).2 L M)) 3 1, row A96 ((sM n m (gx l k).1 (gx l k).2 L M).length) c97 (ci .i64 (sM n m (gx l k).1 (gx l k).2 L M)) 3 1, blk g92 [.int .i64 0, .slice none 0 0] 39, blk g42 [.int .i64 n, .slice A1 L.length c1] 39, blk g44 [.int .i64 m, .slice A2 M.length c2] 39, blk g30 [.slice (some ⟨a31, 0, none⟩) ws.length c32, .int .i64 n] 53, row (some ⟨a31, 0, none⟩) ws.length c32 (ci .u64 ws) 54 1, blk g36 [.slice (some ⟨a37, 0, none⟩) vs.length c38, .int .i64 m] 53, row (some ⟨a37, 0, none⟩) vs.length c38 (ci .u64 vs) 54 1] := H_
                    clear H_
                    obtain ⟨W101, hrun_, H_, hk_⟩ := ex_ks (P := Tryd.prog) (ty := 0) (ps := "law.go:60") (af := #[{ on := 11, ground := Go.Ground.data }, { on := 8, ground := Go.Ground.data }, { on := 6, ground := Go.Ground.chain }, { on := 0, ground := Go.Ground.phase }, { on := 1, ground := Go.Ground.phase }, { on := 2, ground := Go.Ground.phase }, { on := 3, ground := Go.Ground.phase }, { on := 4, ground := Go.Ground.phase }, { on := 5, ground := Go.Ground.phase }, { on := 6, ground := Go.Ground.phase }, { on := 7, ground := Go.Ground.phase }, { on := 8, ground := Go.Ground.phase }, { on := 9, ground := (Go.Ground.textOnly Go.Departure.lateStores) }, { on := 10, ground := (Go.Ground.textOnly Go.Departure.lateStores) }, { on := 11, ground := Go.Ground.phase }, { on := 12, ground := Go.Ground.phase }]) (gd := none) (t := 39) (x := (Go.Operand.tmp 16)) (y := (Go.Operand.tmp 103)) (v := .agg #[.int .i64 n, .slice A94 ((sL n m (gx l k).1 (gx l k).2 L M).length) c95]) HS 0 rfl (0) [.int .i64 n, .slice A94 ((sL n m (gx l k).1 (gx l k).2 L M).length) c95] (by kernel_rfl) (by kernel_rfl) (by kernel_rfl) (by kernel_rfl) (one_ (by kernel_rfl)) (Nat.le_of_ble_eq_true rfl)
                    replace HK := HK.trans hk_ (fun _ h_ => .inr (Nat.le_trans hv_g99 (Nat.le_of_eq (Eq.symm h_))))
                    refine t_s (n := 2) 13 rfl (by kernel_rfl) (by kernel_rfl) hrun_ HK ?_
                    clear hk_ hrun_
                    replace HS : St W (owns []) W101 [blk g99 [.int .i64 n, .slice A94 ((sL n m (gx l k).1 (gx l k).2 L M).length) c95] 39, row A94 ((sL n m (gx l k).1 (gx l k).2 L M).length) c95 (ci .i64 (sL n m (gx l k).1 (gx l k).2 L M)) 3 1, row A96 ((sM n m (gx l k).1 (gx l k).2 L M).length) c97 (ci .i64 (sM n m (gx l k).1 (gx l k).2 L M)) 3 1, blk g92 [.int .i64 0, .slice none 0 0] 39, blk g42 [.int .i64 n, .slice A1 L.length c1] 39, blk g44 [.int .i64 m, .slice A2 M.length c2] 39, blk g30 [.slice (some ⟨a31, 0, none⟩) ws.length c32, .int .i64 n] 53, row (some ⟨a31, 0, none⟩) ws.length c32 (ci .u64 ws) 54 1, blk g36 [.slice (some ⟨a37, 0, none⟩) vs.length c38, .int .i64 m] 53, row (some ⟨a37, 0, none⟩) vs.length c38 (ci .u64 vs) 54 1] := H_
                    clear H_
                    obtain ⟨W102, hrun_, H_, hk_⟩ := ex_ks (P := Tryd.prog) (ty := 0) (ps := "law.go:60") (af := #[{ on := 12, ground := Go.Ground.data }, { on := 9, ground := Go.Ground.data }, { on := 13, ground := Go.Ground.chain }, { on := 0, ground := Go.Ground.phase }, { on := 1, ground := Go.Ground.phase }, { on := 2, ground := Go.Ground.phase }, { on := 3, ground := Go.Ground.phase }, { on := 4, ground := Go.Ground.phase }, { on := 5, ground := Go.Ground.phase }, { on := 6, ground := Go.Ground.phase }, { on := 7, ground := Go.Ground.phase }, { on := 8, ground := Go.Ground.phase }, { on := 9, ground := Go.Ground.phase }, { on := 10, ground := (Go.Ground.textOnly Go.Departure.lateStores) }, { on := 11, ground := Go.Ground.phase }, { on := 12, ground := Go.Ground.phase }, { on := 13, ground := Go.Ground.phase }]) (gd := none) (t := 39) (x := (Go.Operand.tmp 17)) (y := (Go.Operand.tmp 104)) (v := .agg #[.int .i64 m, .slice A96 ((sM n m (gx l k).1 (gx l k).2 L M).length) c97]) HS 3 rfl (0) [.int .i64 m, .slice A96 ((sM n m (gx l k).1 (gx l k).2 L M).length) c97] (by kernel_rfl) (by kernel_rfl) (by kernel_rfl) (by kernel_rfl) (one_ (by kernel_rfl)) (Nat.le_of_ble_eq_true rfl)
                    replace HK := HK.trans hk_ (fun _ h_ => .inr (Nat.le_trans hv_g92 (Nat.le_of_eq (Eq.symm h_))))
                    refine t_s (n := 1) 14 rfl (by kernel_rfl) (by kernel_rfl) hrun_ HK ?_
                    clear hk_ hrun_
                    replace HS : St W (owns []) W102 [blk g99 [.int .i64 n, .slice A94 ((sL n m (gx l k).1 (gx l k).2 L M).length) c95] 39, row A94 ((sL n m (gx l k).1 (gx l k).2 L M).length) c95 (ci .i64 (sL n m (gx l k).1 (gx l k).2 L M)) 3 1, row A96 ((sM n m (gx l k).1 (gx l k).2 L M).length) c97 (ci .i64 (sM n m (gx l k).1 (gx l k).2 L M)) 3 1, blk g92 [.int .i64 m, .slice A96 ((sM n m (gx l k).1 (gx l k).2 L M).length) c97] 39, blk g42 [.int .i64 n, .slice A1 L.length c1] 39, blk g44 [.int .i64 m, .slice A2 M.length c2] 39, blk g30 [.slice (some ⟨a31, 0, none⟩) ws.length c32, .int .i64 n] 53, row (some ⟨a31, 0, none⟩) ws.length c32 (ci .u64 ws) 54 1, blk g36 [.slice (some ⟨a37, 0, none⟩) vs.length c38, .int .i64 m] 53, row (some ⟨a37, 0, none⟩) vs.length c38 (ci .u64 vs) 54 1] := H_
                    clear H_
                    refine t_q (n := 0) 15 (.bool (sB n m (gx l k).1 (gx l k).2 L M)) rfl (by kernel_rfl) (by kernel_rfl) (fun _ _ _ h => h) (fun w' hk => (by kernel_rfl)) HK ?_
                    refine t_done (by kernel_rfl) ?_
                    clear HV HK
                    replace HS : St W (owns []) W102 [blk g99 [.int .i64 n, .slice A94 ((sL n m (gx l k).1 (gx l k).2 L M).length) c95] 39, blk g92 [.int .i64 m, .slice A96 ((sM n m (gx l k).1 (gx l k).2 L M).length) c97] 39, row A94 ((sL n m (gx l k).1 (gx l k).2 L M).length) c95 (ci .i64 (sL n m (gx l k).1 (gx l k).2 L M)) 3 1, row A96 ((sM n m (gx l k).1 (gx l k).2 L M).length) c97 (ci .i64 (sM n m (gx l k).1 (gx l k).2 L M)) 3 1, blk g42 [.int .i64 n, .slice A1 L.length c1] 39, blk g44 [.int .i64 m, .slice A2 M.length c2] 39, blk g30 [.slice (some ⟨a31, 0, none⟩) ws.length c32, .int .i64 n] 53, row (some ⟨a31, 0, none⟩) ws.length c32 (ci .u64 ws) 54 1, blk g36 [.slice (some ⟨a37, 0, none⟩) vs.length c38, .int .i64 m] 53, row (some ⟨a37, 0, none⟩) vs.length c38 (ci .u64 vs) 54 1] := St.tail (F := []) (HS.perm (perm_ [0, 3, 1, 2, 4, 5, 6, 7, 8, 9] (by kernel_rfl) rfl))
                    refine x_then ?_
                    exact ⟨(fun k_ : Nat => List.getD ((.int .i64 n) :: (.int .i64 m) :: (.slice (some ad54) l.length cl) :: (.int .i64 i) :: undef :: undef :: undef :: undef :: ((J48 8)) :: (.pointer (some ⟨g30, 0, none⟩)) :: (.int .i64 0) :: (.pointer (some ⟨g36, 0, none⟩)) :: (.int .i64 0) :: (.pointer (some ⟨g42, 0, none⟩)) :: (.pointer (some ⟨g44, 0, none⟩)) :: (.int .i64 k) :: (.pointer (some ⟨g99, 0, none⟩)) :: (.pointer (some ⟨g92, 0, none⟩)) :: (.bool (sB n m (gx l k).1 (gx l k).2 L M)) :: (.slice (some ad54) l.length cl) :: (.int .i64 (l.length : Int)) :: (.bool false) :: (.bool false) :: (.int .i64 n) :: (.bool false) :: (.bool false) :: undef :: undef :: (.bool false) :: (.bool false) :: (.bool false) :: (.int .i64 m) :: (.bool false) :: (.bool false) :: (.bool false) :: (.int .i64 m) :: (.bool false) :: (.bool false) :: undef :: (.tuple #[.pointer (some ⟨g30, 0, none⟩), .int .i64 0]) :: (.int .i64 n) :: (.tuple #[.pointer (some ⟨g30, 0, none⟩), .int .i64 0]) :: (.pointer (some ⟨g30, 0, none⟩)) :: (.int .i64 0) :: (.tuple #[.pointer (some ⟨g36, 0, none⟩), .int .i64 0]) :: (.int .i64 m) :: (.tuple #[.pointer (some ⟨g36, 0, none⟩), .int .i64 0]) :: (.pointer (some ⟨g36, 0, none⟩)) :: (.int .i64 0) :: (.int .i64 n) :: (.bool false) :: undef :: undef :: undef :: undef :: undef :: undef :: undef :: undef :: undef :: (.int .i64 n) :: (.bool false) :: undef :: undef :: undef :: undef :: undef :: undef :: undef :: undef :: undef :: (.pointer (some ⟨g30, 0, none⟩)) :: (.bool false) :: (.bool false) :: (.pointer (some ⟨g36, 0, none⟩)) :: (.bool false) :: (.bool false) :: (.bool false) :: (.int .i64 0) :: (.bool false) :: (.bool false) :: (.bool false) :: (.int .i64 0) :: (.bool false) :: (.bool false) :: (.int .i64 n) :: (.agg #[.int .i64 n, .slice none 0 0]) :: (.int .i64 m) :: (.agg #[.int .i64 m, .slice none 0 0]) :: (.int .i64 k) :: (.slice (some ad54) l.length cl) :: (.int .i64 (l.length : Int)) :: (.bool true) :: ((J48 93)) :: ((J48 94)) :: (.tuple #[.agg #[.int .i64 n, .slice A94 ((sL n m (gx l k).1 (gx l k).2 L M).length) c95], .agg #[.int .i64 m, .slice A96 ((sM n m (gx l k).1 (gx l k).2 L M).length) c97], .bool (sB n m (gx l k).1 (gx l k).2 L M)]) :: (.agg #[.int .i64 n, .slice A1 L.length c1]) :: (.agg #[.int .i64 m, .slice A2 M.length c2]) :: (.slice (some ad54) l.length cl) :: (.int .i64 k) :: (.pointer (some (ad54.add (k.toNat * 2)))) :: (.agg #[.int .i64 ((gx l k).1), .int .i64 ((gx l k).2)]) :: (.tuple #[.agg #[.int .i64 n, .slice A94 ((sL n m (gx l k).1 (gx l k).2 L M).length) c95], .agg #[.int .i64 m, .slice A96 ((sM n m (gx l k).1 (gx l k).2 L M).length) c97], .bool (sB n m (gx l k).1 (gx l k).2 L M)]) :: (.agg #[.int .i64 n, .slice A94 ((sL n m (gx l k).1 (gx l k).2 L M).length) c95]) :: (.agg #[.int .i64 m, .slice A96 ((sM n m (gx l k).1 (gx l k).2 L M).length) c97]) :: (.bool (sB n m (gx l k).1 (gx l k).2 L M)) :: ((J48 106)) :: ((J48 107)) :: ((J48 108)) :: ((J48 109)) :: ((J48 110)) :: ((J48 111)) :: ((J48 112)) :: ((J48 113)) :: ((J48 114)) :: ((J48 115)) :: ((J48 116)) :: ((J48 117)) :: ((J48 118)) :: ((J48 119)) :: ((J48 120)) :: ((J48 121)) :: ((J48 122)) :: ((J48 123)) :: ((J48 124)) :: ((J48 125)) :: ((J48 126)) :: ((J48 127)) :: ((J48 128)) :: ((J48 129)) :: ((J48 130)) :: ((J48 131)) :: ((J48 132)) :: ((J48 133)) :: ((J48 134)) :: ((J48 135)) :: ((J48 136)) :: ((J48 137)) :: ((J48 138)) :: ((J48 139)) :: ((J48 140)) :: ((J48 141)) :: ((J48 142)) :: ((J48 143)) :: ((J48 144)) :: ((J48 145)) :: ((J48 146)) :: ((J48 147)) :: ((J48 148)) :: ((J48 149)) :: ((J48 150)) :: ((J48 151)) :: ((J48 152)) :: ((J48 153)) :: ((J48 154)) :: ((J48 155)) :: ((J48 156)) :: ((J48 157)) :: ((J48 158)) :: ((J48 159)) :: undef :: []) k_ undef), g99, g92, A94, c95, A96, c97, congrArg Fr (by kernel_rfl), HS⟩
                  · skip
                    obtain ⟨g103, W104, hg_, hw_, H_, hk_⟩ := ex_blk HS [.int .i64 0, .slice none 0 0] 39
                    have hv_g103 := Nat.le_trans HK.size (Nat.le_of_eq (Eq.symm hg_))
                    refine t_e2 (n := 8) 11 (.pointer (some ⟨g103, 0, none⟩)) rfl (by kernel_rfl) (by subst hg_; subst hw_; kernel_rfl) (HK.tr hk_) ?_
                    replace HK := HK.tr hk_
                    clear hk_
                    clear hg_ hw_
                    replace HS : St W (owns []) W104 [blk g103 [.int .i64 0, .slice none 0 0] 39, blk g92 [.int .i64 0, .slice none 0 0] 39, row A1 L.length c1 (ci .i64 L) 3 1, row A2 M.length c2 (ci .i64 M) 3 1, blk g42 [.int .i64 n, .slice A1 L.length c1] 39, blk g44 [.int .i64 m, .slice A2 M.length c2] 39, blk g30 [.slice (some ⟨a31, 0, none⟩) ws.length c32, .int .i64 n] 53, row (some ⟨a31, 0, none⟩) ws.length c32 (ci .u64 ws) 54 1, blk g36 [.slice (some ⟨a37, 0, none⟩) vs.length c38, .int .i64 m] 53, row (some ⟨a37, 0, none⟩) vs.length c38 (ci .u64 vs) 54 1] := H_
                    clear H_
                    refine t_c (n := 7) 6 (f := 16) (args := #[.agg #[.int .i64 n, .slice A1 L.length c1], .agg #[.int .i64 m, .slice A2 M.length c2], .agg #[.int .i64 ((gx l k).1), .int .i64 ((gx l k).2)]]) rfl (by kernel_rfl) (by kernel_rfl) (R_call #[.agg #[.int .i64 n, .slice A1 L.length c1], .agg #[.int .i64 m, .slice A2 M.length c2], .agg #[.int .i64 ((gx l k).1), .int .i64 ((gx l k).2)]] Tryd.func16 (by kernel_rfl) (by kernel_rfl) (by kernel_rfl)) ?_
                    replace HS : St W (owns []) W104 [row A1 L.length c1 (ci .i64 L) 3 1, row A2 M.length c2 (ci .i64 M) 3 1, blk g103 [.int .i64 0, .slice none 0 0] 39, blk g92 [.int .i64 0, .slice none 0 0] 39, blk g42 [.int .i64 n, .slice A1 L.length c1] 39, blk g44 [.int .i64 m, .slice A2 M.length c2] 39, blk g30 [.slice (some ⟨a31, 0, none⟩) ws.length c32, .int .i64 n] 53, row (some ⟨a31, 0, none⟩) ws.length c32 (ci .u64 ws) 54 1, blk g36 [.slice (some ⟨a37, 0, none⟩) vs.length c38, .int .i64 m] 53, row (some ⟨a37, 0, none⟩) vs.length c38 (ci .u64 vs) 54 1] := HS.perm (perm_ [2, 3, 0, 1, 4, 5, 6, 7, 8, 9] (by kernel_rfl) rfl)
                    refine (r3do A1 c1 L n A2 c2 M m (gx l k).1 (gx l k).2 _ _ (St.focus (F := [row A1 L.length c1 (ci .i64 L) 3 1, row A2 M.length c2 (ci .i64 M) 3 1]) HS) (by omega) (by omega) hR.srt hR.lim hM.srt hM.lim).mono ?_
                    rintro e W109 ⟨A105, c106, A107, c108, rfl, H_⟩
                    have hkf_ : ∀ k_, owns [row A1 L.length c1 (ci .i64 L) 3 1, row A2 M.length c2 (ci .i64 M) 3 1] k_ → (row A1 L.length c1 (ci .i64 L) 3 1).own k_ ∨ (row A2 M.length c2 (ci .i64 M) 3 1).own k_ := by
                      intro k_ h_; obtain ⟨e_, he_, ho_⟩ := h_; simp only [List.mem_cons, List.not_mem_nil, or_false] at he_; rcases he_ with rfl | rfl <;> first | exact (.inl ho_) | exact (.inr ho_)
                    refine ⟨_, rfl, HK.trans H_.kept (fun _ h_ => .inl (hkf_ _ h_)), ?_⟩
                    replace HK := HK.trans H_.kept (fun _ h_ => .inl (hkf_ _ h_))
                    replace HS : St W (owns []) W109 [row A105 ((sL n m (gx l k).1 (gx l k).2 L M).length) c106 (ci .i64 (sL n m (gx l k).1 (gx l k).2 L M)) 3 1, row A107 ((sM n m (gx l k).1 (gx l k).2 L M).length) c108 (ci .i64 (sM n m (gx l k).1 (gx l k).2 L M)) 3 1, blk g103 [.int .i64 0, .slice none 0 0] 39, blk g92 [.int .i64 0, .slice none 0 0] 39, blk g42 [.int .i64 n, .slice A1 L.length c1] 39, blk g44 [.int .i64 m, .slice A2 M.length c2] 39, blk g30 [.slice (some ⟨a31, 0, none⟩) ws.length c32, .int .i64 n] 53, row (some ⟨a31, 0, none⟩) ws.length c32 (ci .u64 ws) 54 1, blk g36 [.slice (some ⟨a37, 0, none⟩) vs.length c38, .int .i64 m] 53, row (some ⟨a37, 0, none⟩) vs.length c38 (ci .u64 vs) 54 1] := HS.join (F := [row A1 L.length c1 (ci .i64 L) 3 1, row A2 M.length c2 (ci .i64 M) 3 1]) (G := [row A105 ((sL n m (gx l k).1 (gx l k).2 L M).length) c106 (ci .i64 (sL n m (gx l k).1 (gx l k).2 L M)) 3 1, row A107 ((sM n m (gx l k).1 (gx l k).2 L M).length) c108 (ci .i64 (sM n m (gx l k).1 (gx l k).2 L M)) 3 1]) H_
                    clear H_
                    refine t_q (n := 6) 7 (.tuple #[.agg #[.int .i64 n, .slice A105 ((sL n m (gx l k).1 (gx l k).2 L M).length) c106], .agg #[.int .i64 m, .slice A107 ((sM n m (gx l k).1 (gx l k).2 L M).length) c108], .bool (sB n m (gx l k).1 (gx l k).2 L M)]) rfl (by kernel_rfl) (by kernel_rfl) (fun _ _ _ h => h) (fun w' hk => (by kernel_rfl)) HK ?_
                    refine t_q (n := 5) 8 (.agg #[.int .i64 n, .slice A105 ((sL n m (gx l k).1 (gx l k).2 L M).length) c106]) rfl (by kernel_rfl) (by kernel_rfl) (fun _ _ _ h => h) (fun w' hk => (by kernel_rfl)) HK ?_
                    refine t_q (n := 4) 9 (.agg #[.int .i64 m, .slice A107 ((sM n m (gx l k).1 (gx l k).2 L M).length) c108]) rfl (by kernel_rfl) (by kernel_rfl) (fun _ _ _ h => h) (fun w' hk => (by kernel_rfl)) HK ?_
                    refine t_q (n := 3) 10 (.bool (sB n m (gx l k).1 (gx l k).2 L M)) rfl (by kernel_rfl) (by kernel_rfl) (fun _ _ _ h => h) (fun w' hk => (by kernel_rfl)) HK ?_
                    obtain ⟨W110, hrun_, H_, hk_⟩ := ex_ks (P := Tryd.prog) (ty := 0) (ps := "law.go:60") (af := #[{ on := 11, ground := Go.Ground.data }, { on := 8, ground := Go.Ground.data }, { on := 6, ground := Go.Ground.chain }, { on := 0, ground := Go.Ground.phase }, { on := 1, ground := Go.Ground.phase }, { on := 2, ground := Go.Ground.phase }, { on := 3, ground := Go.Ground.phase }, { on := 4, ground := Go.Ground.phase }, { on := 5, ground := Go.Ground.phase }, { on := 6, ground := Go.Ground.phase }, { on := 7, ground := Go.Ground.phase }, { on := 8, ground := Go.Ground.phase }, { on := 9, ground := (Go.Ground.textOnly Go.Departure.lateStores) }, { on := 10, ground := (Go.Ground.textOnly Go.Departure.lateStores) }, { on := 11, ground := Go.Ground.phase }, { on := 12, ground := Go.Ground.phase }]) (gd := none) (t := 39) (x := (Go.Operand.tmp 16)) (y := (Go.Operand.tmp 103)) (v := .agg #[.int .i64 n, .slice A105 ((sL n m (gx l k).1 (gx l k).2 L M).length) c106]) HS 2 rfl (0) [.int .i64 n, .slice A105 ((sL n m (gx l k).1 (gx l k).2 L M).length) c106] (by kernel_rfl) (by kernel_rfl) (by kernel_rfl) (by kernel_rfl) (one_ (by kernel_rfl)) (Nat.le_of_ble_eq_true rfl)
                    replace HK := HK.trans hk_ (fun _ h_ => .inr (Nat.le_trans hv_g103 (Nat.le_of_eq (Eq.symm h_))))
                    refine t_s (n := 2) 13 rfl (by kernel_rfl) (by kernel_rfl) hrun_ HK ?_
                    clear hk_ hrun_
                    replace HS : St W (owns []) W110 [row A105 ((sL n m (gx l k).1 (gx l k).2 L M).length) c106 (ci .i64 (sL n m (gx l k).1 (gx l k).2 L M)) 3 1, row A107 ((sM n m (gx l k).1 (gx l k).2 L M).length) c108 (ci .i64 (sM n m (gx l k).1 (gx l k).2 L M)) 3 1, blk g103 [.int .i64 n, .slice A105 ((sL n m (gx l k).1 (gx l k).2 L M).length) c106] 39, blk g92 [.int .i64 0, .slice none 0 0] 39, blk g42 [.int .i64 n, .slice A1 L.length c1] 39, blk g44 [.int .i64 m, .slice A2 M.length c2] 39, blk g30 [.slice (some ⟨a31, 0, none⟩) ws.length c32, .int .i64 n] 53, row (some ⟨a31, 0, none⟩) ws.length c32 (ci .u64 ws) 54 1, blk g36 [.slice (some ⟨a37, 0, none⟩) vs.length c38, .int .i64 m] 53, row (some ⟨a37, 0, none⟩) vs.length c38 (ci .u64 vs) 54 1] := H_
                    clear H_
                    obtain ⟨W111, hrun_, H_, hk_⟩ := ex_ks (P := Tryd.prog) (ty := 0) (ps := "law.go:60") (af := #[{ on := 12, ground := Go.Ground.data }, { on := 9, ground := Go.Ground.data }, { on := 13, ground := Go.Ground.chain }, { on := 0, ground := Go.Ground.phase }, { on := 1, ground := Go.Ground.phase }, { on := 2, ground := Go.Ground.phase }, { on := 3, ground := Go.Ground.phase }, { on := 4, ground := Go.Ground.phase }, { on := 5, ground := Go.Ground.phase }, { on := 6, ground := Go.Ground.phase }, { on := 7, ground := Go.Ground.phase }, { on := 8, ground := Go.Ground.phase }, { on := 9, ground := Go.Ground.phase }, { on := 10, ground := (Go.Ground.textOnly Go.Departure.lateStores) }, { on := 11, ground := Go.Ground.phase }, { on := 12, ground := Go.Ground.phase }, { on := 13, ground := Go.Ground.phase }]) (gd := none) (t := 39) (x := (Go.Operand.tmp 17)) (y := (Go.Operand.tmp 104)) (v := .agg #[.int .i64 m, .slice A107 ((sM n m (gx l k).1 (gx l k).2 L M).length) c108]) HS 3 rfl (0) [.int .i64 m, .slice A107 ((sM n m (gx l k).1 (gx l k).2 L M).length) c108] (by kernel_rfl) (by kernel_rfl) (by kernel_rfl) (by kernel_rfl) (one_ (by kernel_rfl)) (Nat.le_of_ble_eq_true rfl)
                    replace HK := HK.trans hk_ (fun _ h_ => .inr (Nat.le_trans hv_g92 (Nat.le_of_eq (Eq.symm h_))))
                    refine t_s (n := 1) 14 rfl (by kernel_rfl) (by kernel_rfl) hrun_ HK ?_
                    clear hk_ hrun_
                    replace HS : St W (owns []) W111 [row A105 ((sL n m (gx l k).1 (gx l k).2 L M).length) c106 (ci .i64 (sL n m (gx l k).1 (gx l k).2 L M)) 3 1, row A107 ((sM n m (gx l k).1 (gx l k).2 L M).length) c108 (ci .i64 (sM n m (gx l k).1 (gx l k).2 L M)) 3 1, blk g103 [.int .i64 n, .slice A105 ((sL n m (gx l k).1 (gx l k).2 L M).length) c106] 39, blk g92 [.int .i64 m, .slice A107 ((sM n m (gx l k).1 (gx l k).2 L M).length) c108] 39, blk g42 [.int .i64 n, .slice A1 L.length c1] 39, blk g44 [.int .i64 m, .slice A2 M.length c2] 39, blk g30 [.slice (some ⟨a31, 0, none⟩) ws.length c32, .int .i64 n] 53, row (some ⟨a31, 0, none⟩) ws.length c32 (ci .u64 ws) 54 1, blk g36 [.slice (some ⟨a37, 0, none⟩) vs.length c38, .int .i64 m] 53, row (some ⟨a37, 0, none⟩) vs.length c38 (ci .u64 vs) 54 1] := H_
                    clear H_
                    refine t_q (n := 0) 15 (.bool (sB n m (gx l k).1 (gx l k).2 L M)) rfl (by kernel_rfl) (by kernel_rfl) (fun _ _ _ h => h) (fun w' hk => (by kernel_rfl)) HK ?_
                    refine t_done (by kernel_rfl) ?_
                    clear HV HK
                    replace HS : St W (owns []) W111 [blk g103 [.int .i64 n, .slice A105 ((sL n m (gx l k).1 (gx l k).2 L M).length) c106] 39, blk g92 [.int .i64 m, .slice A107 ((sM n m (gx l k).1 (gx l k).2 L M).length) c108] 39, row A105 ((sL n m (gx l k).1 (gx l k).2 L M).length) c106 (ci .i64 (sL n m (gx l k).1 (gx l k).2 L M)) 3 1, row A107 ((sM n m (gx l k).1 (gx l k).2 L M).length) c108 (ci .i64 (sM n m (gx l k).1 (gx l k).2 L M)) 3 1, blk g42 [.int .i64 n, .slice A1 L.length c1] 39, blk g44 [.int .i64 m, .slice A2 M.length c2] 39, blk g30 [.slice (some ⟨a31, 0, none⟩) ws.length c32, .int .i64 n] 53, row (some ⟨a31, 0, none⟩) ws.length c32 (ci .u64 ws) 54 1, blk g36 [.slice (some ⟨a37, 0, none⟩) vs.length c38, .int .i64 m] 53, row (some ⟨a37, 0, none⟩) vs.length c38 (ci .u64 vs) 54 1] := St.tail (F := []) (HS.perm (perm_ [2, 3, 0, 1, 4, 5, 6, 7, 8, 9] (by kernel_rfl) rfl))
                    refine x_then ?_
                    exact ⟨(fun k_ : Nat => List.getD ((.int .i64 n) :: (.int .i64 m) :: (.slice (some ad54) l.length cl) :: (.int .i64 i) :: undef :: undef :: undef :: undef :: ((J48 8)) :: (.pointer (some ⟨g30, 0, none⟩)) :: (.int .i64 0) :: (.pointer (some ⟨g36, 0, none⟩)) :: (.int .i64 0) :: (.pointer (some ⟨g42, 0, none⟩)) :: (.pointer (some ⟨g44, 0, none⟩)) :: (.int .i64 k) :: (.pointer (some ⟨g103, 0, none⟩)) :: (.pointer (some ⟨g92, 0, none⟩)) :: (.bool (sB n m (gx l k).1 (gx l k).2 L M)) :: (.slice (some ad54) l.length cl) :: (.int .i64 (l.length : Int)) :: (.bool false) :: (.bool false) :: (.int .i64 n) :: (.bool false) :: (.bool false) :: undef :: undef :: (.bool false) :: (.bool false) :: (.bool false) :: (.int .i64 m) :: (.bool false) :: (.bool false) :: (.bool false) :: (.int .i64 m) :: (.bool false) :: (.bool false) :: undef :: (.tuple #[.pointer (some ⟨g30, 0, none⟩), .int .i64 0]) :: (.int .i64 n) :: (.tuple #[.pointer (some ⟨g30, 0, none⟩), .int .i64 0]) :: (.pointer (some ⟨g30, 0, none⟩)) :: (.int .i64 0) :: (.tuple #[.pointer (some ⟨g36, 0, none⟩), .int .i64 0]) :: (.int .i64 m) :: (.tuple #[.pointer (some ⟨g36, 0, none⟩), .int .i64 0]) :: (.pointer (some ⟨g36, 0, none⟩)) :: (.int .i64 0) :: (.int .i64 n) :: (.bool false) :: undef :: undef :: undef :: undef :: undef :: undef :: undef :: undef :: undef :: (.int .i64 n) :: (.bool false) :: undef :: undef :: undef :: undef :: undef :: undef :: undef :: undef :: undef :: (.pointer (some ⟨g30, 0, none⟩)) :: (.bool false) :: (.bool false) :: (.pointer (some ⟨g36, 0, none⟩)) :: (.bool false) :: (.bool false) :: (.bool false) :: (.int .i64 0) :: (.bool false) :: (.bool false) :: (.bool false) :: (.int .i64 0) :: (.bool false) :: (.bool false) :: (.int .i64 n) :: (.agg #[.int .i64 n, .slice none 0 0]) :: (.int .i64 m) :: (.agg #[.int .i64 m, .slice none 0 0]) :: (.int .i64 k) :: (.slice (some ad54) l.length cl) :: (.int .i64 (l.length : Int)) :: (.bool true) :: ((J48 93)) :: ((J48 94)) :: (.tuple #[.agg #[.int .i64 n, .slice A105 ((sL n m (gx l k).1 (gx l k).2 L M).length) c106], .agg #[.int .i64 m, .slice A107 ((sM n m (gx l k).1 (gx l k).2 L M).length) c108], .bool (sB n m (gx l k).1 (gx l k).2 L M)]) :: (.agg #[.int .i64 n, .slice A1 L.length c1]) :: (.agg #[.int .i64 m, .slice A2 M.length c2]) :: (.slice (some ad54) l.length cl) :: (.int .i64 k) :: (.pointer (some (ad54.add (k.toNat * 2)))) :: (.agg #[.int .i64 ((gx l k).1), .int .i64 ((gx l k).2)]) :: (.tuple #[.agg #[.int .i64 n, .slice A105 ((sL n m (gx l k).1 (gx l k).2 L M).length) c106], .agg #[.int .i64 m, .slice A107 ((sM n m (gx l k).1 (gx l k).2 L M).length) c108], .bool (sB n m (gx l k).1 (gx l k).2 L M)]) :: (.agg #[.int .i64 n, .slice A105 ((sL n m (gx l k).1 (gx l k).2 L M).length) c106]) :: (.agg #[.int .i64 m, .slice A107 ((sM n m (gx l k).1 (gx l k).2 L M).length) c108]) :: (.bool (sB n m (gx l k).1 (gx l k).2 L M)) :: ((J48 106)) :: ((J48 107)) :: ((J48 108)) :: ((J48 109)) :: ((J48 110)) :: ((J48 111)) :: ((J48 112)) :: ((J48 113)) :: ((J48 114)) :: ((J48 115)) :: ((J48 116)) :: ((J48 117)) :: ((J48 118)) :: ((J48 119)) :: ((J48 120)) :: ((J48 121)) :: ((J48 122)) :: ((J48 123)) :: ((J48 124)) :: ((J48 125)) :: ((J48 126)) :: ((J48 127)) :: ((J48 128)) :: ((J48 129)) :: ((J48 130)) :: ((J48 131)) :: ((J48 132)) :: ((J48 133)) :: ((J48 134)) :: ((J48 135)) :: ((J48 136)) :: ((J48 137)) :: ((J48 138)) :: ((J48 139)) :: ((J48 140)) :: ((J48 141)) :: ((J48 142)) :: ((J48 143)) :: ((J48 144)) :: ((J48 145)) :: ((J48 146)) :: ((J48 147)) :: ((J48 148)) :: ((J48 149)) :: ((J48 150)) :: ((J48 151)) :: ((J48 152)) :: ((J48 153)) :: ((J48 154)) :: ((J48 155)) :: ((J48 156)) :: ((J48 157)) :: ((J48 158)) :: ((J48 159)) :: undef :: []) k_ undef), g103, g92, A105, c106, A107, c108, congrArg Fr (by kernel_rfl), HS⟩
              · clear HS
                rintro a' W112 ⟨u52, ga, gb, B1, d1, B2, d2, rfl, HS⟩
                refine wp_seq ?_
                refine wp_region_lit ?_
                refine ql (.agg #[.int .i64 n, .slice B1 ((sL n m (gx l k).1 (gx l k).2 L M).length) d1]) (by kernel_rfl) (R_loadN (p := ⟨ga, 0, none⟩) [.int .i64 n, .slice B1 ((sL n m (gx l k).1 (gx l k).2 L M).length) d1] (by kernel_rfl) (by kernel_rfl) (by kernel_rfl) (by kernel_rfl) (two_at (HS.cell (i := 0) (j := 0) rfl rfl) (HS.cell (i := 0) (j := 1) rfl rfl))) ?_
                refine ks (v := .agg #[.int .i64 n, .slice B1 ((sL n m (gx l k).1 (gx l k).2 L M).length) d1]) HS 4 rfl (0) [.int .i64 n, .slice B1 ((sL n m (gx l k).1 (gx l k).2 L M).length) d1] (by kernel_rfl) (by kernel_rfl) (by kernel_rfl) (by kernel_rfl) (by kernel_rfl) (one_ (by kernel_rfl)) (Nat.le_of_ble_eq_true rfl) rfl ?_
                intro W113 H_
                replace HS : St W (owns []) W113 [blk ga [.int .i64 n, .slice B1 ((sL n m (gx l k).1 (gx l k).2 L M).length) d1] 39, blk gb [.int .i64 m, .slice B2 ((sM n m (gx l k).1 (gx l k).2 L M).length) d2] 39, row B1 ((sL n m (gx l k).1 (gx l k).2 L M).length) d1 (ci .i64 (sL n m (gx l k).1 (gx l k).2 L M)) 3 1, row B2 ((sM n m (gx l k).1 (gx l k).2 L M).length) d2 (ci .i64 (sM n m (gx l k).1 (gx l k).2 L M)) 3 1, blk g42 [.int .i64 n, .slice B1 ((sL n m (gx l k).1 (gx l k).2 L M).length) d1] 39, blk g44 [.int .i64 m, .slice A2 M.length c2] 39, blk g30 [.slice (some ⟨a31, 0, none⟩) ws.length c32, .int .i64 n] 53, row (some ⟨a31, 0, none⟩) ws.length c32 (ci .u64 ws) 54 1, blk g36 [.slice (some ⟨a37, 0, none⟩) vs.length c38, .int .i64 m] 53, row (some ⟨a37, 0, none⟩) vs.length c38 (ci .u64 vs) 54 1] := H_
                clear H_
                refine wpList_nil ?_
                refine x_then ?_
                refine wp_seq ?_
                refine wp_region_lit ?_
                refine ql (.agg #[.int .i64 m, .slice B2 ((sM n m (gx l k).1 (gx l k).2 L M).length) d2]) (by kernel_rfl) (R_loadN (p := ⟨gb, 0, none⟩) [.int .i64 m, .slice B2 ((sM n m (gx l k).1 (gx l k).2 L M).length) d2] (by kernel_rfl) (by kernel_rfl) (by kernel_rfl) (by kernel_rfl) (two_at (HS.cell (i := 1) (j := 0) rfl rfl) (HS.cell (i := 1) (j := 1) rfl rfl))) ?_
                refine ks (v := .agg #[.int .i64 m, .slice B2 ((sM n m (gx l k).1 (gx l k).2 L M).length) d2]) HS 5 rfl (0) [.int .i64 m, .slice B2 ((sM n m (gx l k).1 (gx l k).2 L M).length) d2] (by kernel_rfl) (by kernel_rfl) (by kernel_rfl) (by kernel_rfl) (by kernel_rfl) (one_ (by kernel_rfl)) (Nat.le_of_ble_eq_true rfl) rfl ?_
                intro W114 H_
                replace HS : St W (owns []) W114 [blk ga [.int .i64 n, .slice B1 ((sL n m (gx l k).1 (gx l k).2 L M).length) d1] 39, blk gb [.int .i64 m, .slice B2 ((sM n m (gx l k).1 (gx l k).2 L M).length) d2] 39, row B1 ((sL n m (gx l k).1 (gx l k).2 L M).length) d1 (ci .i64 (sL n m (gx l k).1 (gx l k).2 L M)) 3 1, row B2 ((sM n m (gx l k).1 (gx l k).2 L M).length) d2 (ci .i64 (sM n m (gx l k).1 (gx l k).2 L M)) 3 1, blk g42 [.int .i64 n, .slice B1 ((sL n m (gx l k).1 (gx l k).2 L M).length) d1] 39, blk g44 [.int .i64 m, .slice B2 ((sM n m (gx l k).1 (gx l k).2 L M).length) d2] 39, blk g30 [.slice (some ⟨a31, 0, none⟩) ws.length c32, .int .i64 n] 53, row (some ⟨a31, 0, none⟩) ws.length c32 (ci .u64 ws) 54 1, blk g36 [.slice (some ⟨a37, 0, none⟩) vs.length c38, .int .i64 m] 53, row (some ⟨a37, 0, none⟩) vs.length c38 (ci .u64 vs) 54 1] := H_
                clear H_
                refine wpList_nil ?_
                refine x_then ?_
                refine wp_seq ?_
                replace HS : St W (owns []) W114 [blk g30 [.slice (some ⟨a31, 0, none⟩) ws.length c32, .int .i64 n] 53, row (some ⟨a31, 0, none⟩) ws.length c32 (ci .u64 ws) 54 1, blk g36 [.slice (some ⟨a37, 0, none⟩) vs.length c38, .int .i64 m] 53, row (some ⟨a37, 0, none⟩) vs.length c38 (ci .u64 vs) 54 1, blk ga [.int .i64 n, .slice B1 ((sL n m (gx l k).1 (gx l k).2 L M).length) d1] 39, blk gb [.int .i64 m, .slice B2 ((sM n m (gx l k).1 (gx l k).2 L M).length) d2] 39, row B1 ((sL n m (gx l k).1 (gx l k).2 L M).length) d1 (ci .i64 (sL n m (gx l k).1 (gx l k).2 L M)) 3 1, row B2 ((sM n m (gx l k).1 (gx l k).2 L M).length) d2 (ci .i64 (sM n m (gx l k).1 (gx l k).2 L M)) 3 1, blk g42 [.int .i64 n, .slice B1 ((sL n m (gx l k).1 (gx l k).2 L M).length) d1] 39, blk g44 [.int .i64 m, .slice B2 ((sM n m (gx l k).1 (gx l k).2 L M).length) d2] 39] := HS.perm (perm_ [6, 7, 8, 9, 0, 1, 2, 3, 4, 5] (by kernel_rfl) rfl)
                refine t_start HS (fun k_ => (blk g30 [.slice (some ⟨a31, 0, none⟩) ws.length c32, .int .i64 n] 53).own k_ ∨ (row (some ⟨a31, 0, none⟩) ws.length c32 (ci .u64 ws) 54 1).own k_ ∨ (blk g36 [.slice (some ⟨a37, 0, none⟩) vs.length c38, .int .i64 m] 53).own k_ ∨ (row (some ⟨a37, 0, none⟩) vs.length c38 (ci .u64 vs) 54 1).own k_) 52 (by kernel_rfl) rfl ?_
                intro W115 H_ HD_
                clear HD_
                replace HS : St W (owns []) W115 [blk g30 [.slice (some ⟨a31, 0, none⟩) ws.length c32, .int .i64 n] 53, row (some ⟨a31, 0, none⟩) ws.length c32 (ci .u64 ws) 54 1, blk g36 [.slice (some ⟨a37, 0, none⟩) vs.length c38, .int .i64 m] 53, row (some ⟨a37, 0, none⟩) vs.length c38 (ci .u64 vs) 54 1, blk ga [.int .i64 n, .slice B1 ((sL n m (gx l k).1 (gx l k).2 L M).length) d1] 39, blk gb [.int .i64 m, .slice B2 ((sM n m (gx l k).1 (gx l k).2 L M).length) d2] 39, row B1 ((sL n m (gx l k).1 (gx l k).2 L M).length) d1 (ci .i64 (sL n m (gx l k).1 (gx l k).2 L M)) 3 1, row B2 ((sM n m (gx l k).1 (gx l k).2 L M).length) d2 (ci .i64 (sM n m (gx l k).1 (gx l k).2 L M)) 3 1, blk g42 [.int .i64 n, .slice B1 ((sL n m (gx l k).1 (gx l k).2 L M).length) d1] 39, blk g44 [.int .i64 m, .slice B2 ((sM n m (gx l k).1 (gx l k).2 L M).length) d2] 39] := H_
                clear H_
                have HV := HS
                have HK := Kpt.refl (fun k_ => (blk g30 [.slice (some ⟨a31, 0, none⟩) ws.length c32, .int .i64 n] 53).own k_ ∨ (row (some ⟨a31, 0, none⟩) ws.length c32 (ci .u64 ws) 54 1).own k_ ∨ (blk g36 [.slice (some ⟨a37, 0, none⟩) vs.length c38, .int .i64 m] 53).own k_ ∨ (row (some ⟨a37, 0, none⟩) vs.length c38 (ci .u64 vs) 54 1).own k_) W115
                refine t_q (n := 51) 0 (.pointer (some ⟨g30, 0, none⟩)) rfl (by kernel_rfl) (by kernel_rfl) (fun _ _ _ h => h) (fun w' hk => (by kernel_rfl)) HK ?_
                refine t_q (n := 50) 1 (.pointer (some ⟨g36, 0, none⟩)) rfl (by kernel_rfl) (by kernel_rfl) (fun _ _ _ h => h) (fun w' hk => (by kernel_rfl)) HK ?_
                refine t_q (n := 49) 2 (.slice Al l.length cl) rfl (by kernel_rfl) (by kernel_rfl) (fun _ _ _ h => h) (fun w' hk => (by kernel_rfl)) HK ?_
                refine t_q (n := 48) 3 (.int .i64 k) rfl (by kernel_rfl) (by kernel_rfl) (fun _ _ _ h => h) (fun w' hk => (by kernel_rfl)) HK ?_
                obtain ⟨ad116, rfl⟩ := Rd.isSome_ hra (by rw [cf_len (z := 2) (fun _ => rfl)]; omega)
                refine t_q (n := 47) 4 (.pointer (some (ad116.add (k.toNat * 2)))) rfl (by kernel_rfl) (by kernel_rfl) (fun _ _ _ h => h) (fun w' hk => (R_indexA (k := .i64) (p := ad116) (n := l.length) (c := cl) (i := k) (by kernel_rfl) (by kernel_rfl) Tryd.underlying37 (by kernel_rfl) (by omega) (by omega))) HK ?_
                refine t_q (n := 46) 5 (.agg #[.int .i64 ((gx l k).1), .int .i64 ((gx l k).2)]) rfl (by kernel_rfl) (by kernel_rfl) (fun _ _ _ h => h) (fun w' hk => (R_loadN (p := ad116.add (k.toNat * 2)) [.int .i64 ((gx l k).1), .int .i64 ((gx l k).2)] (by kernel_rfl) (by kernel_rfl) (by kernel_rfl) (by kernel_rfl) (fun j_ v_ hv_ => (hk.cellN (fun h_ => h_.elim (HV.oldSep (i := 0) rfl ((Rd.elem (f := actD) (fun _ => rfl) hra (gx_eq (by omega) (by omega))) j_ v_ hv_)) (fun h_ => h_.elim (HV.oldSep (i := 1) rfl ((Rd.elem (f := actD) (fun _ => rfl) hra (gx_eq (by omega) (by omega))) j_ v_ hv_)) (fun h_ => h_.elim (HV.oldSep (i := 2) rfl ((Rd.elem (f := actD) (fun _ => rfl) hra (gx_eq (by omega) (by omega))) j_ v_ hv_)) (HV.oldSep (i := 3) rfl ((Rd.elem (f := actD) (fun _ => rfl) hra (gx_eq (by omega) (by omega))) j_ v_ hv_))))) (HV.old0 ((Rd.elem (f := actD) (fun _ => rfl) hra (gx_eq (by omega) (by omega))) j_ v_ hv_)))))) HK ?_
                refine t_q (n := 45) 7 (.bool (sB n m (gx l k).1 (gx l k).2 L M)) rfl (by kernel_rfl) (by kernel_rfl) (fun _ _ _ h => h) (fun w' hk => (by kernel_rfl)) HK ?_
                refine t_c (n := 44) 6 (f := 17) (args := #[.pointer (some ⟨g30, 0, none⟩), .pointer (some ⟨g36, 0, none⟩), .agg #[.int .i64 ((gx l k).1), .int .i64 ((gx l k).2)]]) rfl (by kernel_rfl) (by kernel_rfl) (R_call #[.pointer (some ⟨g30, 0, none⟩), .pointer (some ⟨g36, 0, none⟩), .agg #[.int .i64 ((gx l k).1), .int .i64 ((gx l k).2)]] Tryd.func17 (by kernel_rfl) (by kernel_rfl) (by kernel_rfl)) ?_
                refine (ddoes g30 c32 (some ⟨a31, 0, none⟩) ws n g36 c38 (some ⟨a37, 0, none⟩) vs m L M (gx l k).1 (gx l k).2 _ _ (St.focus (F := [blk g30 [.slice (some ⟨a31, 0, none⟩) ws.length c32, .int .i64 n] 53, row (some ⟨a31, 0, none⟩) ws.length c32 (ci .u64 ws) 54 1, blk g36 [.slice (some ⟨a37, 0, none⟩) vs.length c38, .int .i64 m] 53, row (some ⟨a37, 0, none⟩) vs.length c38 (ci .u64 vs) 54 1]) HS) hR (by omega) hM (by omega)).mono ?_
                rintro e W121 ⟨ws117, ws118, rfl, H_, hR119, hR120⟩
                have hkf_ : ∀ k_, owns [blk g30 [.slice (some ⟨a31, 0, none⟩) ws.length c32, .int .i64 n] 53, row (some ⟨a31, 0, none⟩) ws.length c32 (ci .u64 ws) 54 1, blk g36 [.slice (some ⟨a37, 0, none⟩) vs.length c38, .int .i64 m] 53, row (some ⟨a37, 0, none⟩) vs.length c38 (ci .u64 vs) 54 1] k_ → (blk g30 [.slice (some ⟨a31, 0, none⟩) ws.length c32, .int .i64 n] 53).own k_ ∨ (row (some ⟨a31, 0, none⟩) ws.length c32 (ci .u64 ws) 54 1).own k_ ∨ (blk g36 [.slice (some ⟨a37, 0, none⟩) vs.length c38, .int .i64 m] 53).own k_ ∨ (row (some ⟨a37, 0, none⟩) vs.length c38 (ci .u64 vs) 54 1).own k_ := by
                  intro k_ h_; obtain ⟨e_, he_, ho_⟩ := h_; simp only [List.mem_cons, List.not_mem_nil, or_false] at he_; rcases he_ with rfl | rfl | rfl | rfl <;> first | exact (.inl ho_) | exact (.inr (.inl ho_)) | exact (.inr (.inr (.inl ho_))) | exact (.inr (.inr (.inr ho_)))
                refine ⟨_, rfl, HK.trans H_.kept (fun _ h_ => .inl (hkf_ _ h_)), ?_⟩
                replace HK := HK.trans H_.kept (fun _ h_ => .inl (hkf_ _ h_))
                replace HS : St W (owns []) W121 [blk g30 [.slice (some ⟨a31, 0, none⟩) ws117.length c32, .int .i64 n] 53, row (some ⟨a31, 0, none⟩) ws117.length c32 (ci .u64 ws117) 54 1, blk g36 [.slice (some ⟨a37, 0, none⟩) ws118.length c38, .int .i64 m] 53, row (some ⟨a37, 0, none⟩) ws118.length c38 (ci .u64 ws118) 54 1, blk ga [.int .i64 n, .slice B1 ((sL n m (gx l k).1 (gx l k).2 L M).length) d1] 39, blk gb [.int .i64 m, .slice B2 ((sM n m (gx l k).1 (gx l k).2 L M).length) d2] 39, row B1 ((sL n m (gx l k).1 (gx l k).2 L M).length) d1 (ci .i64 (sL n m (gx l k).1 (gx l k).2 L M)) 3 1, row B2 ((sM n m (gx l k).1 (gx l k).2 L M).length) d2 (ci .i64 (sM n m (gx l k).1 (gx l k).2 L M)) 3 1, blk g42 [.int .i64 n, .slice B1 ((sL n m (gx l k).1 (gx l k).2 L M).length) d1] 39, blk g44 [.int .i64 m, .slice B2 ((sM n m (gx l k).1 (gx l k).2 L M).length) d2] 39] := HS.join (F := [blk g30 [.slice (some ⟨a31, 0, none⟩) ws.length c32, .int .i64 n] 53, row (some ⟨a31, 0, none⟩) ws.length c32 (ci .u64 ws) 54 1, blk g36 [.slice (some ⟨a37, 0, none⟩) vs.length c38, .int .i64 m] 53, row (some ⟨a37, 0, none⟩) vs.length c38 (ci .u64 vs) 54 1]) (G := [blk g30 [.slice (some ⟨a31, 0, none⟩) ws117.length c32, .int .i64 n] 53, row (some ⟨a31, 0, none⟩) ws117.length c32 (ci .u64 ws117) 54 1, blk g36 [.slice (some ⟨a37, 0, none⟩) ws118.length c38, .int .i64 m] 53, row (some ⟨a37, 0, none⟩) ws118.length c38 (ci .u64 ws118) 54 1]) H_
                clear H_
                have hlA := hR119.llen
                have hlB := hR120.llen
                refine t_q (n := 43) 8 (.bool false) rfl (by kernel_rfl) (by kernel_rfl) (fun _ _ _ h => h) (fun w' hk => (R_beq (b := ((sB n m (gx l k).1 (gx l k).2 L M) != (sB n m (gx l k).1 (gx l k).2 L M))) (by kernel_rfl) (bne_same _))) HK ?_
                refine t_q (n := 42) 9 (.bool false) rfl (by kernel_rfl) (by kernel_rfl) (fun _ _ _ h => h) (fun w' hk => (by kernel_rfl)) HK ?_
                refine t_q (n := 41) 10 (.pointer (some ⟨g30, 0, none⟩)) rfl (by kernel_rfl) (by kernel_rfl) (fun _ _ _ h => h) (fun w' hk => (by kernel_rfl)) HK ?_
                refine t_q (n := 40) 11 (.agg #[.int .i64 n, .slice B1 ((sL n m (gx l k).1 (gx l k).2 L M).length) d1]) rfl (by kernel_rfl) (by kernel_rfl) (fun _ _ _ h => h) (fun w' hk => (R_loadN (p := ⟨g42, 0, none⟩) [.int .i64 n, .slice B1 ((sL n m (gx l k).1 (gx l k).2 L M).length) d1] (by kernel_rfl) (by kernel_rfl) (by kernel_rfl) (by kernel_rfl) (two_at (hk.cellN (fun h_ => h_.elim (HV.sepB (a := 8) (b := 0) (by decide) rfl rfl) (fun h_ => h_.elim (HV.sepB (a := 8) (b := 1) (by decide) rfl rfl) (fun h_ => h_.elim (HV.sepB (a := 8) (b := 2) (by decide) rfl rfl) (HV.sepB (a := 8) (b := 3) (by decide) rfl rfl)))) (HV.cell (i := 8) (j := 0) rfl rfl)) (hk.cellN (fun h_ => h_.elim (HV.sepB (a := 8) (b := 0) (by decide) rfl rfl) (fun h_ => h_.elim (HV.sepB (a := 8) (b := 1) (by decide) rfl rfl) (fun h_ => h_.elim (HV.sepB (a := 8) (b := 2) (by decide) rfl rfl) (HV.sepB (a := 8) (b := 3) (by decide) rfl rfl)))) (HV.cell (i := 8) (j := 1) rfl rfl))))) HK ?_
                refine t_q (n := 39) 12 (.int .i64 i) rfl (by kernel_rfl) (by kernel_rfl) (fun _ _ _ h => h) (fun w' hk => (by kernel_rfl)) HK ?_
                refine t_c (n := 38) 13 (f := 18) (args := #[.pointer (some ⟨g30, 0, none⟩), .agg #[.int .i64 n, .slice B1 ((sL n m (gx l k).1 (gx l k).2 L M).length) d1], .int .i64 i]) rfl (by kernel_rfl) (by kernel_rfl) (R_call #[.pointer (some ⟨g30, 0, none⟩), .agg #[.int .i64 n, .slice B1 ((sL n m (gx l k).1 (gx l k).2 L M).length) d1], .int .i64 i] Tryd.func18 (by kernel_rfl) (by kernel_rfl) (by kernel_rfl)) ?_
                refine (dtells g30 c32 (some ⟨a31, 0, none⟩) ws117 n (sL n m (gx l k).1 (gx l k).2 L M) B1 d1 i _ (HS.cell (i := 0) (j := 0) rfl rfl) (HS.cell (i := 0) (j := 1) rfl rfl) (Rd.row HS (i := 1) rfl) hR119 (by omega) (hT.old0 HS) (Rd.row HS (i := 6) rfl) (by omega)).mono ?_
                rintro e W122 ⟨rfl, H_⟩
                refine ⟨_, rfl, HK.tr H_.kept.nil, ?_⟩
                replace HK := HK.tr H_.kept.nil
                replace HS : St W (owns []) W122 [blk g30 [.slice (some ⟨a31, 0, none⟩) ws117.length c32, .int .i64 n] 53, row (some ⟨a31, 0, none⟩) ws117.length c32 (ci .u64 ws117) 54 1, blk g36 [.slice (some ⟨a37, 0, none⟩) ws118.length c38, .int .i64 m] 53, row (some ⟨a37, 0, none⟩) ws118.length c38 (ci .u64 ws118) 54 1, blk ga [.int .i64 n, .slice B1 ((sL n m (gx l k).1 (gx l k).2 L M).length) d1] 39, blk gb [.int .i64 m, .slice B2 ((sM n m (gx l k).1 (gx l k).2 L M).length) d2] 39, row B1 ((sL n m (gx l k).1 (gx l k).2 L M).length) d1 (ci .i64 (sL n m (gx l k).1 (gx l k).2 L M)) 3 1, row B2 ((sM n m (gx l k).1 (gx l k).2 L M).length) d2 (ci .i64 (sM n m (gx l k).1 (gx l k).2 L M)) 3 1, blk g42 [.int .i64 n, .slice B1 ((sL n m (gx l k).1 (gx l k).2 L M).length) d1] 39, blk g44 [.int .i64 m, .slice B2 ((sM n m (gx l k).1 (gx l k).2 L M).length) d2] 39] := HS.join (F := []) (G := []) H_
                clear H_
                refine t_q (n := 37) 14 (.bool false) rfl (by kernel_rfl) (by kernel_rfl) (fun _ _ _ h => h) (fun w' hk => (by kernel_rfl)) HK ?_
                refine t_q (n := 36) 15 (.bool false) rfl (by kernel_rfl) (by kernel_rfl) (fun _ _ _ h => h) (fun w' hk => (by kernel_rfl)) HK ?_
                refine t_q (n := 35) 16 (.bool false) rfl (by kernel_rfl) (by kernel_rfl) (fun _ _ _ h => h) (fun w' hk => (by kernel_rfl)) HK ?_
                refine t_q (n := 34) 17 (.pointer (some ⟨g36, 0, none⟩)) rfl (by kernel_rfl) (by kernel_rfl) (fun _ _ _ h => h) (fun w' hk => (by kernel_rfl)) HK ?_
                refine t_q (n := 33) 18 (.agg #[.int .i64 m, .slice B2 ((sM n m (gx l k).1 (gx l k).2 L M).length) d2]) rfl (by kernel_rfl) (by kernel_rfl) (fun _ _ _ h => h) (fun w' hk => (R_loadN (p := ⟨g44, 0, none⟩) [.int .i64 m, .slice B2 ((sM n m (gx l k).1 (gx l k).2 L M).length) d2] (by kernel_rfl) (by kernel_rfl) (by kernel_rfl) (by kernel_rfl) (two_at (hk.cellN (fun h_ => h_.elim (HV.sepB (a := 9) (b := 0) (by decide) rfl rfl) (fun h_ => h_.elim (HV.sepB (a := 9) (b := 1) (by decide) rfl rfl) (fun h_ => h_.elim (HV.sepB (a := 9) (b := 2) (by decide) rfl rfl) (HV.sepB (a := 9) (b := 3) (by decide) rfl rfl)))) (HV.cell (i := 9) (j := 0) rfl rfl)) (hk.cellN (fun h_ => h_.elim (HV.sepB (a := 9) (b := 0) (by decide) rfl rfl) (fun h_ => h_.elim (HV.sepB (a := 9) (b := 1) (by decide) rfl rfl) (fun h_ => h_.elim (HV.sepB (a := 9) (b := 2) (by decide) rfl rfl) (HV.sepB (a := 9) (b := 3) (by decide) rfl rfl)))) (HV.cell (i := 9) (j := 1) rfl rfl))))) HK ?_
                refine t_q (n := 32) 19 (.slice (some ad116) l.length cl) rfl (by kernel_rfl) (by kernel_rfl) (fun _ _ _ h => h) (fun w' hk => (by kernel_rfl)) HK ?_
                refine t_q (n := 31) 20 (.int .i64 k) rfl (by kernel_rfl) (by kernel_rfl) (fun _ _ _ h => h) (fun w' hk => (by kernel_rfl)) HK ?_
                refine t_q (n := 30) 21 (.pointer (some (ad116.add (k.toNat * 2)))) rfl (by kernel_rfl) (by kernel_rfl) (fun _ _ _ h => h) (fun w' hk => (R_indexA (k := .i64) (p := ad116) (n := l.length) (c := cl) (i := k) (by kernel_rfl) (by kernel_rfl) Tryd.underlying37 (by kernel_rfl) (by omega) (by omega))) HK ?_
                refine t_q (n := 29) 22 (.pointer (some ((ad116.add (k.toNat * 2)).add 1))) rfl (by kernel_rfl) (by kernel_rfl) (fun _ _ _ h => h) (fun w' hk => (by kernel_rfl)) HK ?_
                refine t_q (n := 28) 23 (.int .i64 ((gx l k).2)) rfl (by kernel_rfl) (by kernel_rfl) (fun _ _ _ h => h) (fun w' hk => (R_load (p := (ad116.add (k.toNat * 2)).add 1) (by kernel_rfl) (by kernel_rfl) (by kernel_rfl) (hk.cellN (fun h_ => h_.elim (HV.oldSep (i := 0) rfl (Rd.elem1 (k := 1) (f := actD) (fun _ => rfl) hra (gx_eq (by omega) (by omega)) rfl)) (fun h_ => h_.elim (HV.oldSep (i := 1) rfl (Rd.elem1 (k := 1) (f := actD) (fun _ => rfl) hra (gx_eq (by omega) (by omega)) rfl)) (fun h_ => h_.elim (HV.oldSep (i := 2) rfl (Rd.elem1 (k := 1) (f := actD) (fun _ => rfl) hra (gx_eq (by omega) (by omega)) rfl)) (HV.oldSep (i := 3) rfl (Rd.elem1 (k := 1) (f := actD) (fun _ => rfl) hra (gx_eq (by omega) (by omega)) rfl))))) (HV.old0 (Rd.elem1 (k := 1) (f := actD) (fun _ => rfl) hra (gx_eq (by omega) (by omega)) rfl))))) HK ?_
                refine t_c (n := 27) 24 (f := 18) (args := #[.pointer (some ⟨g36, 0, none⟩), .agg #[.int .i64 m, .slice B2 ((sM n m (gx l k).1 (gx l k).2 L M).length) d2], .int .i64 ((gx l k).2)]) rfl (by kernel_rfl) (by kernel_rfl) (R_call #[.pointer (some ⟨g36, 0, none⟩), .agg #[.int .i64 m, .slice B2 ((sM n m (gx l k).1 (gx l k).2 L M).length) d2], .int .i64 ((gx l k).2)] Tryd.func18 (by kernel_rfl) (by kernel_rfl) (by kernel_rfl)) ?_
                refine (dtells g36 c38 (some ⟨a37, 0, none⟩) ws118 m (sM n m (gx l k).1 (gx l k).2 L M) B2 d2 ((gx l k).2) _ (HS.cell (i := 2) (j := 0) rfl rfl) (HS.cell (i := 2) (j := 1) rfl rfl) (Rd.row HS (i := 3) rfl) hR120 (by omega) (hT.old0 HS) (Rd.row HS (i := 7) rfl) (by omega)).mono ?_
                rintro e W123 ⟨rfl, H_⟩
                refine ⟨_, rfl, HK.tr H_.kept.nil, ?_⟩
                replace HK := HK.tr H_.kept.nil
                replace HS : St W (owns []) W123 [blk g30 [.slice (some ⟨a31, 0, none⟩) ws117.length c32, .int .i64 n] 53, row (some ⟨a31, 0, none⟩) ws117.length c32 (ci .u64 ws117) 54 1, blk g36 [.slice (some ⟨a37, 0, none⟩) ws118.length c38, .int .i64 m] 53, row (some ⟨a37, 0, none⟩) ws118.length c38 (ci .u64 ws118) 54 1, blk ga [.int .i64 n, .slice B1 ((sL n m (gx l k).1 (gx l k).2 L M).length) d1] 39, blk gb [.int .i64 m, .slice B2 ((sM n m (gx l k).1 (gx l k).2 L M).length) d2] 39, row B1 ((sL n m (gx l k).1 (gx l k).2 L M).length) d1 (ci .i64 (sL n m (gx l k).1 (gx l k).2 L M)) 3 1, row B2 ((sM n m (gx l k).1 (gx l k).2 L M).length) d2 (ci .i64 (sM n m (gx l k).1 (gx l k).2 L M)) 3 1, blk g42 [.int .i64 n, .slice B1 ((sL n m (gx l k).1 (gx l k).2 L M).length) d1] 39, blk g44 [.int .i64 m, .slice B2 ((sM n m (gx l k).1 (gx l k).2 L M).length) d2] 39] := HS.join (F := []) (G := []) H_
                clear H_
                refine t_q (n := 26) 25 (.bool false) rfl (by kernel_rfl) (by kernel_rfl) (fun _ _ _ h => h) (fun w' hk => (by kernel_rfl)) HK ?_
                refine t_q (n := 25) 26 (.bool false) rfl (by kernel_rfl) (by kernel_rfl) (fun _ _ _ h => h) (fun w' hk => (by kernel_rfl)) HK ?_
                refine t_q (n := 24) 27 (.bool false) rfl (by kernel_rfl) (by kernel_rfl) (fun _ _ _ h => h) (fun w' hk => (by kernel_rfl)) HK ?_
                refine t_q (n := 23) 28 (.pointer (some ⟨g30, 0, none⟩)) rfl (by kernel_rfl) (by kernel_rfl) (fun _ _ _ h => h) (fun w' hk => (by kernel_rfl)) HK ?_
                refine t_q (n := 22) 29 (.pointer (some ⟨g36, 0, none⟩)) rfl (by kernel_rfl) (by kernel_rfl) (fun _ _ _ h => h) (fun w' hk => (by kernel_rfl)) HK ?_
                refine t_q (n := 21) 31 (.agg #[.int .i64 n, .slice B1 ((sL n m (gx l k).1 (gx l k).2 L M).length) d1]) rfl (by kernel_rfl) (by kernel_rfl) (fun _ _ _ h => h) (fun w' hk => (R_loadN (p := ⟨g42, 0, none⟩) [.int .i64 n, .slice B1 ((sL n m (gx l k).1 (gx l k).2 L M).length) d1] (by kernel_rfl) (by kernel_rfl) (by kernel_rfl) (by kernel_rfl) (two_at (hk.cellN (fun h_ => h_.elim (HV.sepB (a := 8) (b := 0) (by decide) rfl rfl) (fun h_ => h_.elim (HV.sepB (a := 8) (b := 1) (by decide) rfl rfl) (fun h_ => h_.elim (HV.sepB (a := 8) (b := 2) (by decide) rfl rfl) (HV.sepB (a := 8) (b := 3) (by decide) rfl rfl)))) (HV.cell (i := 8) (j := 0) rfl rfl)) (hk.cellN (fun h_ => h_.elim (HV.sepB (a := 8) (b := 0) (by decide) rfl rfl) (fun h_ => h_.elim (HV.sepB (a := 8) (b := 1) (by decide) rfl rfl) (fun h_ => h_.elim (HV.sepB (a := 8) (b := 2) (by decide) rfl rfl) (HV.sepB (a := 8) (b := 3) (by decide) rfl rfl)))) (HV.cell (i := 8) (j := 1) rfl rfl))))) HK ?_
                refine t_q (n := 20) 32 (.agg #[.int .i64 m, .slice B2 ((sM n m (gx l k).1 (gx l k).2 L M).length) d2]) rfl (by kernel_rfl) (by kernel_rfl) (fun _ _ _ h => h) (fun w' hk => (R_loadN (p := ⟨g44, 0, none⟩) [.int .i64 m, .slice B2 ((sM n m (gx l k).1 (gx l k).2 L M).length) d2] (by kernel_rfl) (by kernel_rfl) (by kernel_rfl) (by kernel_rfl) (two_at (hk.cellN (fun h_ => h_.elim (HV.sepB (a := 9) (b := 0) (by decide) rfl rfl) (fun h_ => h_.elim (HV.sepB (a := 9) (b := 1) (by decide) rfl rfl) (fun h_ => h_.elim (HV.sepB (a := 9) (b := 2) (by decide) rfl rfl) (HV.sepB (a := 9) (b := 3) (by decide) rfl rfl)))) (HV.cell (i := 9) (j := 0) rfl rfl)) (hk.cellN (fun h_ => h_.elim (HV.sepB (a := 9) (b := 0) (by decide) rfl rfl) (fun h_ => h_.elim (HV.sepB (a := 9) (b := 1) (by decide) rfl rfl) (fun h_ => h_.elim (HV.sepB (a := 9) (b := 2) (by decide) rfl rfl) (HV.sepB (a := 9) (b := 3) (by decide) rfl rfl)))) (HV.cell (i := 9) (j := 1) rfl rfl))))) HK ?_
                refine t_c (n := 19) 30 (f := 10) (args := #[.pointer (some ⟨g30, 0, none⟩), .pointer (some ⟨g36, 0, none⟩)]) rfl (by kernel_rfl) (by kernel_rfl) (R_call #[.pointer (some ⟨g30, 0, none⟩), .pointer (some ⟨g36, 0, none⟩)] Tryd.func10 (by kernel_rfl) (by kernel_rfl) (by kernel_rfl)) ?_
                refine (dwithin g30 c32 (some ⟨a31, 0, none⟩) ws117 n g36 c38 (some ⟨a37, 0, none⟩) ws118 m (sL n m (gx l k).1 (gx l k).2 L M) (sM n m (gx l k).1 (gx l k).2 L M) _ (HS.cell (i := 0) (j := 0) rfl rfl) (HS.cell (i := 0) (j := 1) rfl rfl) (Rd.row HS (i := 1) rfl) hR119 (by omega) (HS.cell (i := 2) (j := 0) rfl rfl) (HS.cell (i := 2) (j := 1) rfl rfl) (Rd.row HS (i := 3) rfl) hR120 (by omega) (hT.old0 HS)).mono ?_
                rintro e W124 ⟨rfl, H_⟩
                refine ⟨_, rfl, HK.tr H_.kept.nil, ?_⟩
                replace HK := HK.tr H_.kept.nil
                replace HS : St W (owns []) W124 [blk g30 [.slice (some ⟨a31, 0, none⟩) ws117.length c32, .int .i64 n] 53, row (some ⟨a31, 0, none⟩) ws117.length c32 (ci .u64 ws117) 54 1, blk g36 [.slice (some ⟨a37, 0, none⟩) ws118.length c38, .int .i64 m] 53, row (some ⟨a37, 0, none⟩) ws118.length c38 (ci .u64 ws118) 54 1, blk ga [.int .i64 n, .slice B1 ((sL n m (gx l k).1 (gx l k).2 L M).length) d1] 39, blk gb [.int .i64 m, .slice B2 ((sM n m (gx l k).1 (gx l k).2 L M).length) d2] 39, row B1 ((sL n m (gx l k).1 (gx l k).2 L M).length) d1 (ci .i64 (sL n m (gx l k).1 (gx l k).2 L M)) 3 1, row B2 ((sM n m (gx l k).1 (gx l k).2 L M).length) d2 (ci .i64 (sM n m (gx l k).1 (gx l k).2 L M)) 3 1, blk g42 [.int .i64 n, .slice B1 ((sL n m (gx l k).1 (gx l k).2 L M).length) d1] 39, blk g44 [.int .i64 m, .slice B2 ((sM n m (gx l k).1 (gx l k).2 L M).length) d2] 39] := HS.join (F := []) (G := []) H_
                clear H_
                refine t_c (n := 18) 33 (f := 19) (args := #[.agg #[.int .i64 n, .slice B1 ((sL n m (gx l k).1 (gx l k).2 L M).length) d1], .agg #[.int .i64 m, .slice B2 ((sM n m (gx l k).1 (gx l k).2 L M).length) d2]]) rfl (by kernel_rfl) (by kernel_rfl) (R_call #[.agg #[.int .i64 n, .slice B1 ((sL n m (gx l k).1 (gx l k).2 L M).length) d1], .agg #[.int .i64 m, .slice B2 ((sM n m (gx l k).1 (gx l k).2 L M).length) d2]] Tryd.func19 (by kernel_rfl) (by kernel_rfl) (by kernel_rfl)) ?_
                refine (r3within B1 d1 (sL n m (gx l k).1 (gx l k).2 L M) n B2 d2 (sM n m (gx l k).1 (gx l k).2 L M) m _ (Rd.row HS (i := 6) rfl) (by omega) (Rd.row HS (i := 7) rfl) (by omega)).mono ?_
                rintro e W125 ⟨rfl, H_⟩
                refine ⟨_, rfl, HK.tr H_.kept.nil, ?_⟩
                replace HK := HK.tr H_.kept.nil
                replace HS : St W (owns []) W125 [blk g30 [.slice (some ⟨a31, 0, none⟩) ws117.length c32, .int .i64 n] 53, row (some ⟨a31, 0, none⟩) ws117.length c32 (ci .u64 ws117) 54 1, blk g36 [.slice (some ⟨a37, 0, none⟩) ws118.length c38, .int .i64 m] 53, row (some ⟨a37, 0, none⟩) ws118.length c38 (ci .u64 ws118) 54 1, blk ga [.int .i64 n, .slice B1 ((sL n m (gx l k).1 (gx l k).2 L M).length) d1] 39, blk gb [.int .i64 m, .slice B2 ((sM n m (gx l k).1 (gx l k).2 L M).length) d2] 39, row B1 ((sL n m (gx l k).1 (gx l k).2 L M).length) d1 (ci .i64 (sL n m (gx l k).1 (gx l k).2 L M)) 3 1, row B2 ((sM n m (gx l k).1 (gx l k).2 L M).length) d2 (ci .i64 (sM n m (gx l k).1 (gx l k).2 L M)) 3 1, blk g42 [.int .i64 n, .slice B1 ((sL n m (gx l k).1 (gx l k).2 L M).length) d1] 39, blk g44 [.int .i64 m, .slice B2 ((sM n m (gx l k).1 (gx l k).2 L M).length) d2] 39] := HS.join (F := []) (G := []) H_
                clear H_
                refine t_q (n := 17) 34 (.bool false) rfl (by kernel_rfl) (by kernel_rfl) (fun _ _ _ h => h) (fun w' hk => (R_beq (b := ((wiB (sL n m (gx l k).1 (gx l k).2 L M) (sM n m (gx l k).1 (gx l k).2 L M)) != (wiB (sL n m (gx l k).1 (gx l k).2 L M) (sM n m (gx l k).1 (gx l k).2 L M)))) (by kernel_rfl) (bne_same _))) HK ?_
                refine t_q (n := 16) 35 (.bool false) rfl (by kernel_rfl) (by kernel_rfl) (fun _ _ _ h => h) (fun w' hk => (by kernel_rfl)) HK ?_
                refine t_q (n := 15) 36 (.bool false) rfl (by kernel_rfl) (by kernel_rfl) (fun _ _ _ h => h) (fun w' hk => (by kernel_rfl)) HK ?_
                refine t_q (n := 14) 37 (.pointer (some ⟨g30, 0, none⟩)) rfl (by kernel_rfl) (by kernel_rfl) (fun _ _ _ h => h) (fun w' hk => (by kernel_rfl)) HK ?_
                refine t_q (n := 13) 38 (.pointer (some ⟨g36, 0, none⟩)) rfl (by kernel_rfl) (by kernel_rfl) (fun _ _ _ h => h) (fun w' hk => (by kernel_rfl)) HK ?_
                refine t_q (n := 12) 40 (.int .i64 n) rfl (by kernel_rfl) (by kernel_rfl) (fun _ _ _ h => h) (fun w' hk => (by kernel_rfl)) HK ?_
                refine t_q (n := 11) 41 (.int .i64 m) rfl (by kernel_rfl) (by kernel_rfl) (fun _ _ _ h => h) (fun w' hk => (by kernel_rfl)) HK ?_
                by_cases hc126 : n = m
                · skip
                  refine t_q (n := 10) 42 (.bool true) rfl (by kernel_rfl) (by kernel_rfl) (fun _ _ _ h => h) (fun w' hk => (R_beq (b := (n == m)) (by kernel_rfl) (beq_t (hc126)))) HK ?_
                  refine t_c (n := 9) 39 (f := 20) (args := #[.pointer (some ⟨g30, 0, none⟩), .pointer (some ⟨g36, 0, none⟩)]) rfl (by kernel_rfl) (by kernel_rfl) (R_call #[.pointer (some ⟨g30, 0, none⟩), .pointer (some ⟨g36, 0, none⟩)] Tryd.func20 (by kernel_rfl) (by kernel_rfl) (by kernel_rfl)) ?_
                  refine (dsame g30 c32 (some ⟨a31, 0, none⟩) ws117 n g36 c38 (some ⟨a37, 0, none⟩) ws118 m (sL n m (gx l k).1 (gx l k).2 L M) (sM n m (gx l k).1 (gx l k).2 L M) _ (HS.cell (i := 0) (j := 0) rfl rfl) (HS.cell (i := 0) (j := 1) rfl rfl) (Rd.row HS (i := 1) rfl) hR119 (by omega) (HS.cell (i := 2) (j := 0) rfl rfl) (HS.cell (i := 2) (j := 1) rfl rfl) (Rd.row HS (i := 3) rfl) hR120 (by omega)).mono ?_
                  rintro e W127 ⟨rfl, H_⟩
                  rw [show decide (n = m ∧ (sL n m (gx l k).1 (gx l k).2 L M) = (sM n m (gx l k).1 (gx l k).2 L M)) = decide ((sL n m (gx l k).1 (gx l k).2 L M) = (sM n m (gx l k).1 (gx l k).2 L M)) from decide_eq_decide.2 ⟨fun h_ => h_.2, fun h_ => ⟨hc126, h_⟩⟩]
                  refine ⟨_, rfl, HK.tr H_.kept.nil, ?_⟩
                  replace HK := HK.tr H_.kept.nil
                  replace HS : St W (owns []) W127 [blk g30 [.slice (some ⟨a31, 0, none⟩) ws117.length c32, .int .i64 n] 53, row (some ⟨a31, 0, none⟩) ws117.length c32 (ci .u64 ws117) 54 1, blk g36 [.slice (some ⟨a37, 0, none⟩) ws118.length c38, .int .i64 m] 53, row (some ⟨a37, 0, none⟩) ws118.length c38 (ci .u64 ws118) 54 1, blk ga [.int .i64 n, .slice B1 ((sL n m (gx l k).1 (gx l k).2 L M).length) d1] 39, blk gb [.int .i64 m, .slice B2 ((sM n m (gx l k).1 (gx l k).2 L M).length) d2] 39, row B1 ((sL n m (gx l k).1 (gx l k).2 L M).length) d1 (ci .i64 (sL n m (gx l k).1 (gx l k).2 L M)) 3 1, row B2 ((sM n m (gx l k).1 (gx l k).2 L M).length) d2 (ci .i64 (sM n m (gx l k).1 (gx l k).2 L M)) 3 1, blk g42 [.int .i64 n, .slice B1 ((sL n m (gx l k).1 (gx l k).2 L M).length) d1] 39, blk g44 [.int .i64 m, .slice B2 ((sM n m (gx l k).1 (gx l k).2 L M).length) d2] 39] := HS.join (F := []) (G := []) H_
                  clear H_
                  refine t_q (n := 8) 43 (.bool true) rfl (by kernel_rfl) (by kernel_rfl) (fun _ _ _ h => h) (fun w' hk => (by kernel_rfl)) HK ?_
                  refine t_q (n := 7) 44 (.pointer (some ⟨g42, 1, none⟩)) rfl (by kernel_rfl) (by kernel_rfl) (fun _ _ _ h => h) (fun w' hk => (by kernel_rfl)) HK ?_
                  refine t_q (n := 6) 45 (.slice B1 ((sL n m (gx l k).1 (gx l k).2 L M).length) d1) rfl (by kernel_rfl) (by kernel_rfl) (fun _ _ _ h => h) (fun w' hk => (R_load (p := ⟨g42, 1, none⟩) (by kernel_rfl) (by kernel_rfl) (by kernel_rfl) (hk.cellN (fun h_ => h_.elim (HV.sepB (a := 8) (b := 0) (by decide) rfl rfl) (fun h_ => h_.elim (HV.sepB (a := 8) (b := 1) (by decide) rfl rfl) (fun h_ => h_.elim (HV.sepB (a := 8) (b := 2) (by decide) rfl rfl) (HV.sepB (a := 8) (b := 3) (by decide) rfl rfl)))) (HV.cell (i := 8) (j := 1) rfl rfl)))) HK ?_
                  refine t_q (n := 5) 46 (.pointer (some ⟨g44, 1, none⟩)) rfl (by kernel_rfl) (by kernel_rfl) (fun _ _ _ h => h) (fun w' hk => (by kernel_rfl)) HK ?_
                  refine t_q (n := 4) 47 (.slice B2 ((sM n m (gx l k).1 (gx l k).2 L M).length) d2) rfl (by kernel_rfl) (by kernel_rfl) (fun _ _ _ h => h) (fun w' hk => (R_load (p := ⟨g44, 1, none⟩) (by kernel_rfl) (by kernel_rfl) (by kernel_rfl) (hk.cellN (fun h_ => h_.elim (HV.sepB (a := 9) (b := 0) (by decide) rfl rfl) (fun h_ => h_.elim (HV.sepB (a := 9) (b := 1) (by decide) rfl rfl) (fun h_ => h_.elim (HV.sepB (a := 9) (b := 2) (by decide) rfl rfl) (HV.sepB (a := 9) (b := 3) (by decide) rfl rfl)))) (HV.cell (i := 9) (j := 1) rfl rfl)))) HK ?_
                  refine t_c (n := 3) 48 (f := 21) (args := #[.slice B1 ((sL n m (gx l k).1 (gx l k).2 L M).length) d1, .slice B2 ((sM n m (gx l k).1 (gx l k).2 L M).length) d2]) rfl (by kernel_rfl) (by kernel_rfl) (R_call #[.slice B1 ((sL n m (gx l k).1 (gx l k).2 L M).length) d1, .slice B2 ((sM n m (gx l k).1 (gx l k).2 L M).length) d2] Tryd.func21 (by kernel_rfl) (by kernel_rfl) (by kernel_rfl)) ?_
                  refine (r1same B1 B2 _ _ (sL n m (gx l k).1 (gx l k).2 L M) (sM n m (gx l k).1 (gx l k).2 L M) _ (Rd.row HS (i := 6) rfl) (by omega) (Rd.row HS (i := 7) rfl) (by omega)).mono ?_
                  rintro e W128 ⟨rfl, H_⟩
                  refine ⟨_, rfl, HK.tr H_.kept.nil, ?_⟩
                  replace HK := HK.tr H_.kept.nil
                  replace HS : St W (owns []) W128 [blk g30 [.slice (some ⟨a31, 0, none⟩) ws117.length c32, .int .i64 n] 53, row (some ⟨a31, 0, none⟩) ws117.length c32 (ci .u64 ws117) 54 1, blk g36 [.slice (some ⟨a37, 0, none⟩) ws118.length c38, .int .i64 m] 53, row (some ⟨a37, 0, none⟩) ws118.length c38 (ci .u64 ws118) 54 1, blk ga [.int .i64 n, .slice B1 ((sL n m (gx l k).1 (gx l k).2 L M).length) d1] 39, blk gb [.int .i64 m, .slice B2 ((sM n m (gx l k).1 (gx l k).2 L M).length) d2] 39, row B1 ((sL n m (gx l k).1 (gx l k).2 L M).length) d1 (ci .i64 (sL n m (gx l k).1 (gx l k).2 L M)) 3 1, row B2 ((sM n m (gx l k).1 (gx l k).2 L M).length) d2 (ci .i64 (sM n m (gx l k).1 (gx l k).2 L M)) 3 1, blk g42 [.int .i64 n, .slice B1 ((sL n m (gx l k).1 (gx l k).2 L M).length) d1] 39, blk g44 [.int .i64 m, .slice B2 ((sM n m (gx l k).1 (gx l k).2 L M).length) d2] 39] := HS.join (F := []) (G := []) H_
                  clear H_
                  refine t_q (n := 2) 49 (.bool (decide ((sL n m (gx l k).1 (gx l k).2 L M) = (sM n m (gx l k).1 (gx l k).2 L M)))) rfl (by kernel_rfl) (by kernel_rfl) (fun _ _ _ h => h) (fun w' hk => (by kernel_rfl)) HK ?_
                  refine t_q (n := 1) 50 (.bool false) rfl (by kernel_rfl) (by kernel_rfl) (fun _ _ _ h => h) (fun w' hk => (R_beq (b := ((decide ((sL n m (gx l k).1 (gx l k).2 L M) = (sM n m (gx l k).1 (gx l k).2 L M))) != (decide ((sL n m (gx l k).1 (gx l k).2 L M) = (sM n m (gx l k).1 (gx l k).2 L M))))) (by kernel_rfl) (bne_same _))) HK ?_
                  refine t_q (n := 0) 51 (.bool false) rfl (by kernel_rfl) (by kernel_rfl) (fun _ _ _ h => h) (fun w' hk => (by kernel_rfl)) HK ?_
                  refine t_done (by kernel_rfl) ?_
                  clear HV HK
                  refine x_then ?_
                  refine wp_cond_false (by kernel_rfl) ?_
                  refine wp_skip ?_
                  refine x_inb ?_
                  refine x_then ?_
                  refine wp_region_lit ?_
                  refine ql (.int .i64 k) (by kernel_rfl) (by kernel_rfl) ?_
                  refine ql (.int .i64 (k + 1)) (by kernel_rfl) (R_int (by kernel_rfl) (w64 (by omega))) ?_
                  refine ql (.int .i64 (k + 1)) (by kernel_rfl) (by kernel_rfl) ?_
                  refine wpList_nil ?_
                  replace HS : St W (owns []) W128 [blk g42 [.int .i64 n, .slice B1 ((sL n m (gx l k).1 (gx l k).2 L M).length) d1] 39, row B1 ((sL n m (gx l k).1 (gx l k).2 L M).length) d1 (ci .i64 (sL n m (gx l k).1 (gx l k).2 L M)) 3 1, blk g44 [.int .i64 m, .slice B2 ((sM n m (gx l k).1 (gx l k).2 L M).length) d2] 39, row B2 ((sM n m (gx l k).1 (gx l k).2 L M).length) d2 (ci .i64 (sM n m (gx l k).1 (gx l k).2 L M)) 3 1, blk g30 [.slice (some ⟨a31, 0, none⟩) ws117.length c32, .int .i64 n] 53, row (some ⟨a31, 0, none⟩) ws117.length c32 (ci .u64 ws117) 54 1, blk g36 [.slice (some ⟨a37, 0, none⟩) ws118.length c38, .int .i64 m] 53, row (some ⟨a37, 0, none⟩) ws118.length c38 (ci .u64 ws118) 54 1] := St.tail (F := [blk ga [.int .i64 n, .slice B1 ((sL n m (gx l k).1 (gx l k).2 L M).length) d1] 39, blk gb [.int .i64 m, .slice B2 ((sM n m (gx l k).1 (gx l k).2 L M).length) d2] 39]) (HS.perm (perm_ [4, 5, 8, 6, 9, 7, 0, 1, 2, 3] (by kernel_rfl) rfl))
                  refine x_then ?_
                  exact ⟨l.length - (k + 1).toNat, by omega, (fun k_ : Nat => List.getD ((.int .i64 n) :: (.int .i64 m) :: (.slice (some ad116) l.length cl) :: (.int .i64 i) :: undef :: undef :: undef :: undef :: ((J48 8)) :: (.pointer (some ⟨g30, 0, none⟩)) :: (.int .i64 0) :: (.pointer (some ⟨g36, 0, none⟩)) :: (.int .i64 0) :: (.pointer (some ⟨g42, 0, none⟩)) :: (.pointer (some ⟨g44, 0, none⟩)) :: (.int .i64 (k + 1)) :: (.pointer (some ⟨ga, 0, none⟩)) :: (.pointer (some ⟨gb, 0, none⟩)) :: (.bool (sB n m (gx l k).1 (gx l k).2 L M)) :: (.slice (some ad116) l.length cl) :: (.int .i64 (l.length : Int)) :: (.bool false) :: (.bool false) :: (.int .i64 n) :: (.bool false) :: (.bool false) :: undef :: undef :: (.bool false) :: (.bool false) :: (.bool false) :: (.int .i64 m) :: (.bool false) :: (.bool false) :: (.bool false) :: (.int .i64 m) :: (.bool false) :: (.bool false) :: undef :: (.tuple #[.pointer (some ⟨g30, 0, none⟩), .int .i64 0]) :: (.int .i64 n) :: (.tuple #[.pointer (some ⟨g30, 0, none⟩), .int .i64 0]) :: (.pointer (some ⟨g30, 0, none⟩)) :: (.int .i64 0) :: (.tuple #[.pointer (some ⟨g36, 0, none⟩), .int .i64 0]) :: (.int .i64 m) :: (.tuple #[.pointer (some ⟨g36, 0, none⟩), .int .i64 0]) :: (.pointer (some ⟨g36, 0, none⟩)) :: (.int .i64 0) :: (.int .i64 n) :: (.bool false) :: undef :: undef :: undef :: undef :: undef :: undef :: undef :: undef :: undef :: (.int .i64 n) :: (.bool false) :: undef :: undef :: undef :: undef :: undef :: undef :: undef :: undef :: undef :: (.pointer (some ⟨g30, 0, none⟩)) :: (.bool false) :: (.bool false) :: (.pointer (some ⟨g36, 0, none⟩)) :: (.bool false) :: (.bool false) :: (.bool false) :: (.int .i64 0) :: (.bool false) :: (.bool false) :: (.bool false) :: (.int .i64 0) :: (.bool false) :: (.bool false) :: (.int .i64 n) :: (.agg #[.int .i64 n, .slice none 0 0]) :: (.int .i64 m) :: (.agg #[.int .i64 m, .slice none 0 0]) :: (.int .i64 k) :: (.slice (some ad116) l.length cl) :: (.int .i64 (l.length : Int)) :: (.bool true) :: (.int .i64 k) :: (.int .i64 (k + 1)) :: ((u52 95)) :: ((u52 96)) :: ((u52 97)) :: ((u52 98)) :: ((u52 99)) :: ((u52 100)) :: ((u52 101)) :: ((u52 102)) :: ((u52 103)) :: ((u52 104)) :: ((u52 105)) :: (.agg #[.int .i64 n, .slice B1 ((sL n m (gx l k).1 (gx l k).2 L M).length) d1]) :: (.agg #[.int .i64 m, .slice B2 ((sM n m (gx l k).1 (gx l k).2 L M).length) d2]) :: (.pointer (some ⟨g30, 0, none⟩)) :: (.pointer (some ⟨g36, 0, none⟩)) :: (.slice (some ad116) l.length cl) :: (.int .i64 k) :: (.pointer (some (ad116.add (k.toNat * 2)))) :: (.agg #[.int .i64 ((gx l k).1), .int .i64 ((gx l k).2)]) :: (.bool (sB n m (gx l k).1 (gx l k).2 L M)) :: (.bool (sB n m (gx l k).1 (gx l k).2 L M)) :: (.bool false) :: (.bool false) :: (.pointer (some ⟨g30, 0, none⟩)) :: (.agg #[.int .i64 n, .slice B1 ((sL n m (gx l k).1 (gx l k).2 L M).length) d1]) :: (.int .i64 i) :: (.bool true) :: (.bool false) :: (.bool false) :: (.bool false) :: (.pointer (some ⟨g36, 0, none⟩)) :: (.agg #[.int .i64 m, .slice B2 ((sM n m (gx l k).1 (gx l k).2 L M).length) d2]) :: (.slice (some ad116) l.length cl) :: (.int .i64 k) :: (.pointer (some (ad116.add (k.toNat * 2)))) :: (.pointer (some ((ad116.add (k.toNat * 2)).add 1))) :: (.int .i64 ((gx l k).2)) :: (.bool true) :: (.bool false) :: (.bool false) :: (.bool false) :: (.pointer (some ⟨g30, 0, none⟩)) :: (.pointer (some ⟨g36, 0, none⟩)) :: (.bool (wiB (sL n m (gx l k).1 (gx l k).2 L M) (sM n m (gx l k).1 (gx l k).2 L M))) :: (.agg #[.int .i64 n, .slice B1 ((sL n m (gx l k).1 (gx l k).2 L M).length) d1]) :: (.agg #[.int .i64 m, .slice B2 ((sM n m (gx l k).1 (gx l k).2 L M).length) d2]) :: (.bool (wiB (sL n m (gx l k).1 (gx l k).2 L M) (sM n m (gx l k).1 (gx l k).2 L M))) :: (.bool false) :: (.bool false) :: (.bool false) :: (.pointer (some ⟨g30, 0, none⟩)) :: (.pointer (some ⟨g36, 0, none⟩)) :: (.bool (decide ((sL n m (gx l k).1 (gx l k).2 L M) = (sM n m (gx l k).1 (gx l k).2 L M)))) :: (.int .i64 n) :: (.int .i64 m) :: (.bool true) :: (.bool true) :: (.pointer (some ⟨g42, 1, none⟩)) :: (.slice B1 ((sL n m (gx l k).1 (gx l k).2 L M).length) d1) :: (.pointer (some ⟨g44, 1, none⟩)) :: (.slice B2 ((sM n m (gx l k).1 (gx l k).2 L M).length) d2) :: (.bool (decide ((sL n m (gx l k).1 (gx l k).2 L M) = (sM n m (gx l k).1 (gx l k).2 L M)))) :: (.bool (decide ((sL n m (gx l k).1 (gx l k).2 L M) = (sM n m (gx l k).1 (gx l k).2 L M)))) :: (.bool false) :: (.bool false) :: undef :: []) k_ undef), k + 1, (sL n m (gx l k).1 (gx l k).2 L M), (sM n m (gx l k).1 (gx l k).2 L M), B1, d1, B2, d2, ws117, ws118, congrArg Fr (by kernel_rfl), rfl, by omega, by omega, hR119, hR120, HS⟩
                · skip
                  refine t_q (n := 10) 42 (.bool false) rfl (by kernel_rfl) (by kernel_rfl) (fun _ _ _ h => h) (fun w' hk => (R_beq (b := (n == m)) (by kernel_rfl) (beq_f (hc126)))) HK ?_
                  refine t_c (n := 9) 39 (f := 20) (args := #[.pointer (some ⟨g30, 0, none⟩), .pointer (some ⟨g36, 0, none⟩)]) rfl (by kernel_rfl) (by kernel_rfl) (R_call #[.pointer (some ⟨g30, 0, none⟩), .pointer (some ⟨g36, 0, none⟩)] Tryd.func20 (by kernel_rfl) (by kernel_rfl) (by kernel_rfl)) ?_
                  refine (dsame g30 c32 (some ⟨a31, 0, none⟩) ws117 n g36 c38 (some ⟨a37, 0, none⟩) ws118 m (sL n m (gx l k).1 (gx l k).2 L M) (sM n m (gx l k).1 (gx l k).2 L M) _ (HS.cell (i := 0) (j := 0) rfl rfl) (HS.cell (i := 0) (j := 1) rfl rfl) (Rd.row HS (i := 1) rfl) hR119 (by omega) (HS.cell (i := 2) (j := 0) rfl rfl) (HS.cell (i := 2) (j := 1) rfl rfl) (Rd.row HS (i := 3) rfl) hR120 (by omega)).mono ?_
                  rintro e W129 ⟨rfl, H_⟩
                  rw [decide_eq_false (fun h_ : n = m ∧ (sL n m (gx l k).1 (gx l k).2 L M) = (sM n m (gx l k).1 (gx l k).2 L M) => hc126 h_.1)]
                  refine ⟨_, rfl, HK.tr H_.kept.nil, ?_⟩
                  replace HK := HK.tr H_.kept.nil
                  replace HS : St W (owns []) W129 [blk g30 [.slice (some ⟨a31, 0, none⟩) ws117.length c32, .int .i64 n] 53, row (some ⟨a31, 0, none⟩) ws117.length c32 (ci .u64 ws117) 54 1, blk g36 [.slice (some ⟨a37, 0, none⟩) ws118.length c38, .int .i64 m] 53, row (some ⟨a37, 0, none⟩) ws118.length c38 (ci .u64 ws118) 54 1, blk ga [.int .i64 n, .slice B1 ((sL n m (gx l k).1 (gx l k).2 L M).length) d1] 39, blk gb [.int .i64 m, .slice B2 ((sM n m (gx l k).1 (gx l k).2 L M).length) d2] 39, row B1 ((sL n m (gx l k).1 (gx l k).2 L M).length) d1 (ci .i64 (sL n m (gx l k).1 (gx l k).2 L M)) 3 1, row B2 ((sM n m (gx l k).1 (gx l k).2 L M).length) d2 (ci .i64 (sM n m (gx l k).1 (gx l k).2 L M)) 3 1, blk g42 [.int .i64 n, .slice B1 ((sL n m (gx l k).1 (gx l k).2 L M).length) d1] 39, blk g44 [.int .i64 m, .slice B2 ((sM n m (gx l k).1 (gx l k).2 L M).length) d2] 39] := HS.join (F := []) (G := []) H_
                  clear H_
                  refine t_q (n := 8) 43 (.bool false) rfl (by kernel_rfl) (by kernel_rfl) (fun _ _ _ h => h) (fun w' hk => (by kernel_rfl)) HK ?_
                  refine t_qn (n := 7) 44 rfl (by kernel_rfl) (by kernel_rfl) (fun _ _ _ h => h) HK ?_
                  refine t_qn (n := 6) 45 rfl (by kernel_rfl) (by kernel_rfl) (fun _ _ _ h => h) HK ?_
                  refine t_qn (n := 5) 46 rfl (by kernel_rfl) (by kernel_rfl) (fun _ _ _ h => h) HK ?_
                  refine t_qn (n := 4) 47 rfl (by kernel_rfl) (by kernel_rfl) (fun _ _ _ h => h) HK ?_
                  refine t_qn (n := 3) 48 rfl (by kernel_rfl) (by kernel_rfl) (fun _ _ _ h => h) HK ?_
                  refine t_q (n := 2) 49 (.bool false) rfl (by kernel_rfl) (by kernel_rfl) (fun _ _ _ h => h) (fun w' hk => (by kernel_rfl)) HK ?_
                  refine t_q (n := 1) 50 (.bool false) rfl (by kernel_rfl) (by kernel_rfl) (fun _ _ _ h => h) (fun w' hk => (by kernel_rfl)) HK ?_
                  refine t_q (n := 0) 51 (.bool false) rfl (by kernel_rfl) (by kernel_rfl) (fun _ _ _ h => h) (fun w' hk => (by kernel_rfl)) HK ?_
                  refine t_done (by kernel_rfl) ?_
                  clear HV HK
                  refine x_then ?_
                  refine wp_cond_false (by kernel_rfl) ?_
                  refine wp_skip ?_
                  refine x_inb ?_
                  refine x_then ?_
                  refine wp_region_lit ?_
                  refine ql (.int .i64 k) (by kernel_rfl) (by kernel_rfl) ?_
                  refine ql (.int .i64 (k + 1)) (by kernel_rfl) (R_int (by kernel_rfl) (w64 (by omega))) ?_
                  refine ql (.int .i64 (k + 1)) (by kernel_rfl) (by kernel_rfl) ?_
                  refine wpList_nil ?_
                  replace HS : St W (owns []) W129 [blk g42 [.int .i64 n, .slice B1 ((sL n m (gx l k).1 (gx l k).2 L M).length) d1] 39, row B1 ((sL n m (gx l k).1 (gx l k).2 L M).length) d1 (ci .i64 (sL n m (gx l k).1 (gx l k).2 L M)) 3 1, blk g44 [.int .i64 m, .slice B2 ((sM n m (gx l k).1 (gx l k).2 L M).length) d2] 39, row B2 ((sM n m (gx l k).1 (gx l k).2 L M).length) d2 (ci .i64 (sM n m (gx l k).1 (gx l k).2 L M)) 3 1, blk g30 [.slice (some ⟨a31, 0, none⟩) ws117.length c32, .int .i64 n] 53, row (some ⟨a31, 0, none⟩) ws117.length c32 (ci .u64 ws117) 54 1, blk g36 [.slice (some ⟨a37, 0, none⟩) ws118.length c38, .int .i64 m] 53, row (some ⟨a37, 0, none⟩) ws118.length c38 (ci .u64 ws118) 54 1] := St.tail (F := [blk ga [.int .i64 n, .slice B1 ((sL n m (gx l k).1 (gx l k).2 L M).length) d1] 39, blk gb [.int .i64 m, .slice B2 ((sM n m (gx l k).1 (gx l k).2 L M).length) d2] 39]) (HS.perm (perm_ [4, 5, 8, 6, 9, 7, 0, 1, 2, 3] (by kernel_rfl) rfl))
                  refine x_then ?_
                  exact ⟨l.length - (k + 1).toNat, by omega, (fun k_ : Nat => List.getD ((.int .i64 n) :: (.int .i64 m) :: (.slice (some ad116) l.length cl) :: (.int .i64 i) :: undef :: undef :: undef :: undef :: ((J48 8)) :: (.pointer (some ⟨g30, 0, none⟩)) :: (.int .i64 0) :: (.pointer (some ⟨g36, 0, none⟩)) :: (.int .i64 0) :: (.pointer (some ⟨g42, 0, none⟩)) :: (.pointer (some ⟨g44, 0, none⟩)) :: (.int .i64 (k + 1)) :: (.pointer (some ⟨ga, 0, none⟩)) :: (.pointer (some ⟨gb, 0, none⟩)) :: (.bool (sB n m (gx l k).1 (gx l k).2 L M)) :: (.slice (some ad116) l.length cl) :: (.int .i64 (l.length : Int)) :: (.bool false) :: (.bool false) :: (.int .i64 n) :: (.bool false) :: (.bool false) :: undef :: undef :: (.bool false) :: (.bool false) :: (.bool false) :: (.int .i64 m) :: (.bool false) :: (.bool false) :: (.bool false) :: (.int .i64 m) :: (.bool false) :: (.bool false) :: undef :: (.tuple #[.pointer (some ⟨g30, 0, none⟩), .int .i64 0]) :: (.int .i64 n) :: (.tuple #[.pointer (some ⟨g30, 0, none⟩), .int .i64 0]) :: (.pointer (some ⟨g30, 0, none⟩)) :: (.int .i64 0) :: (.tuple #[.pointer (some ⟨g36, 0, none⟩), .int .i64 0]) :: (.int .i64 m) :: (.tuple #[.pointer (some ⟨g36, 0, none⟩), .int .i64 0]) :: (.pointer (some ⟨g36, 0, none⟩)) :: (.int .i64 0) :: (.int .i64 n) :: (.bool false) :: undef :: undef :: undef :: undef :: undef :: undef :: undef :: undef :: undef :: (.int .i64 n) :: (.bool false) :: undef :: undef :: undef :: undef :: undef :: undef :: undef :: undef :: undef :: (.pointer (some ⟨g30, 0, none⟩)) :: (.bool false) :: (.bool false) :: (.pointer (some ⟨g36, 0, none⟩)) :: (.bool false) :: (.bool false) :: (.bool false) :: (.int .i64 0) :: (.bool false) :: (.bool false) :: (.bool false) :: (.int .i64 0) :: (.bool false) :: (.bool false) :: (.int .i64 n) :: (.agg #[.int .i64 n, .slice none 0 0]) :: (.int .i64 m) :: (.agg #[.int .i64 m, .slice none 0 0]) :: (.int .i64 k) :: (.slice (some ad116) l.length cl) :: (.int .i64 (l.length : Int)) :: (.bool true) :: (.int .i64 k) :: (.int .i64 (k + 1)) :: ((u52 95)) :: ((u52 96)) :: ((u52 97)) :: ((u52 98)) :: ((u52 99)) :: ((u52 100)) :: ((u52 101)) :: ((u52 102)) :: ((u52 103)) :: ((u52 104)) :: ((u52 105)) :: (.agg #[.int .i64 n, .slice B1 ((sL n m (gx l k).1 (gx l k).2 L M).length) d1]) :: (.agg #[.int .i64 m, .slice B2 ((sM n m (gx l k).1 (gx l k).2 L M).length) d2]) :: (.pointer (some ⟨g30, 0, none⟩)) :: (.pointer (some ⟨g36, 0, none⟩)) :: (.slice (some ad116) l.length cl) :: (.int .i64 k) :: (.pointer (some (ad116.add (k.toNat * 2)))) :: (.agg #[.int .i64 ((gx l k).1), .int .i64 ((gx l k).2)]) :: (.bool (sB n m (gx l k).1 (gx l k).2 L M)) :: (.bool (sB n m (gx l k).1 (gx l k).2 L M)) :: (.bool false) :: (.bool false) :: (.pointer (some ⟨g30, 0, none⟩)) :: (.agg #[.int .i64 n, .slice B1 ((sL n m (gx l k).1 (gx l k).2 L M).length) d1]) :: (.int .i64 i) :: (.bool true) :: (.bool false) :: (.bool false) :: (.bool false) :: (.pointer (some ⟨g36, 0, none⟩)) :: (.agg #[.int .i64 m, .slice B2 ((sM n m (gx l k).1 (gx l k).2 L M).length) d2]) :: (.slice (some ad116) l.length cl) :: (.int .i64 k) :: (.pointer (some (ad116.add (k.toNat * 2)))) :: (.pointer (some ((ad116.add (k.toNat * 2)).add 1))) :: (.int .i64 ((gx l k).2)) :: (.bool true) :: (.bool false) :: (.bool false) :: (.bool false) :: (.pointer (some ⟨g30, 0, none⟩)) :: (.pointer (some ⟨g36, 0, none⟩)) :: (.bool (wiB (sL n m (gx l k).1 (gx l k).2 L M) (sM n m (gx l k).1 (gx l k).2 L M))) :: (.agg #[.int .i64 n, .slice B1 ((sL n m (gx l k).1 (gx l k).2 L M).length) d1]) :: (.agg #[.int .i64 m, .slice B2 ((sM n m (gx l k).1 (gx l k).2 L M).length) d2]) :: (.bool (wiB (sL n m (gx l k).1 (gx l k).2 L M) (sM n m (gx l k).1 (gx l k).2 L M))) :: (.bool false) :: (.bool false) :: (.bool false) :: (.pointer (some ⟨g30, 0, none⟩)) :: (.pointer (some ⟨g36, 0, none⟩)) :: (.bool false) :: (.int .i64 n) :: (.int .i64 m) :: (.bool false) :: (.bool false) :: undef :: undef :: undef :: undef :: undef :: (.bool false) :: (.bool false) :: (.bool false) :: undef :: []) k_ undef), k + 1, (sL n m (gx l k).1 (gx l k).2 L M), (sM n m (gx l k).1 (gx l k).2 L M), B1, d1, B2, d2, ws117, ws118, congrArg Fr (by kernel_rfl), rfl, by omega, by omega, hR119, hR120, HS⟩
            · skip
              refine ql (.bool false) (by kernel_rfl) (R_nbool (p := k < (l.length : Int)) (by kernel_rfl) (hc51)) ?_
              refine wpList_nil ?_
              refine x_then ?_
              refine wp_cond_false (by kernel_rfl) ?_
              refine wp_exit ?_
              refine x_thenE ?_
              refine x_thenE ?_
              refine x_hit ?_
              refine x_then ?_
              refine wp_seq ?_
              refine wp_region_lit ?_
              refine qc (f := 6) (args := #[]) (by kernel_rfl) (R_call #[] Tryd.func6 (by kernel_rfl) (by kernel_rfl) (by kernel_rfl)) ?_
              refine (dawake _ (hT.old0 HS)).mono ?_
              rintro e W130 ⟨rfl, H_⟩
              refine ⟨_, rfl, ?_⟩
              replace HS : St W (owns []) W130 [blk g42 [.int .i64 n, .slice A1 L.length c1] 39, row A1 L.length c1 (ci .i64 L) 3 1, blk g44 [.int .i64 m, .slice A2 M.length c2] 39, row A2 M.length c2 (ci .i64 M) 3 1, blk g30 [.slice (some ⟨a31, 0, none⟩) ws.length c32, .int .i64 n] 53, row (some ⟨a31, 0, none⟩) ws.length c32 (ci .u64 ws) 54 1, blk g36 [.slice (some ⟨a37, 0, none⟩) vs.length c38, .int .i64 m] 53, row (some ⟨a37, 0, none⟩) vs.length c38 (ci .u64 vs) 54 1] := HS.join (F := []) (G := []) H_
              clear H_
              refine ql (.bool true) (by kernel_rfl) (by kernel_rfl) ?_
              refine wpList_nil ?_
              refine x_then ?_
              refine wp_ret ?_
              refine ret_ (.bool true) (by kernel_rfl) ?_
              replace HS := HS.drop1
              replace HS := HS.drop1
              replace HS := HS.drop1
              replace HS := HS.drop1
              replace HS := HS.drop1
              replace HS := HS.drop1
              replace HS := HS.drop1
              replace HS := HS.drop1
              exact ⟨rfl, HS⟩

end Go.Proofs.YtphhialimmhopaaDoor
