/- The law MixedPlays holds at every input. This text: the walks through the functions that the statement reaches. No condition but those in the statement. -/
import Derived.WalkKit
import Derived.StillTailTactics
import Derived.Deep.LoopGhost
import Derived.KernelRfl
import Derived.Deep.OwnRows
import Derived.Laws.OwnMore
import Derived.Laws.MakeOwn
import Derived.Maps.AppendAt
import Derived.OrdersHeld
import Derived.Test.YtdiodmdohkjafaaDoorProg
import Derived.Test.YtdiodmdohkjafaaDoorHa
import Derived.Test.YtdiodmdohkjafaaDoorHb
import Derived.Test.YtdiodmdohkjafaaDoorHc
import Derived.Test.YtdiodmdohkjafaaDoorHd
import Derived.Test.YtdiodmdohkjafaaDoorHe
namespace Go.Proofs.YtdiodmdohkjafaaDoor
open Go Go.RowKit Go.Shelf Go.Proofs.YtdiodmdohkjafaaDoor.Hp
attribute [local irreducible] wpStill wpList Code.wp TA
set_option linter.unusedVariables false
set_option linter.unusedSimpArgs false
set_option maxRecDepth 100000 in
set_option maxHeartbeats 1000000 in
theorem lMixedPlays (n m i : Int) (Al : Option Addr) (cl : Nat) (l : List (Int × Int × Int)) (W : World) (hra : Rd W Al (cf actM l)) (hT : TabAt64 W) : Calls Tryd.prog 3 #[.int .i64 n, .int .i64 m, .slice Al l.length cl, .int .i64 i] W fun e W' => e = .returned (.bool true) ∧ St W (owns []) W' [] := by
  have HS : St W (owns []) W [] := St.start W _
  refine calls_enter ((.int .i64 n) :: (.int .i64 m) :: (.slice Al l.length cl) :: (.int .i64 i) :: undef :: undef :: undef :: undef :: undef :: undef :: undef :: undef :: undef :: undef :: undef :: undef :: undef :: undef :: undef :: undef :: undef :: undef :: undef :: undef :: undef :: undef :: undef :: undef :: undef :: undef :: undef :: undef :: undef :: undef :: undef :: undef :: undef :: undef :: undef :: undef :: undef :: undef :: undef :: undef :: undef :: undef :: undef :: undef :: undef :: undef :: undef :: undef :: undef :: undef :: undef :: undef :: undef :: undef :: undef :: undef :: undef :: undef :: undef :: undef :: undef :: undef :: undef :: undef :: undef :: undef :: undef :: undef :: undef :: undef :: undef :: undef :: undef :: undef :: undef :: undef :: undef :: undef :: undef :: undef :: undef :: undef :: undef :: undef :: undef :: undef :: undef :: undef :: undef :: undef :: undef :: undef :: undef :: undef :: undef :: undef :: undef :: undef :: undef :: undef :: undef :: undef :: undef :: undef :: undef :: undef :: undef :: undef :: undef :: undef :: undef :: undef :: undef :: undef :: undef :: undef :: undef :: undef :: undef :: undef :: undef :: undef :: undef :: undef :: undef :: undef :: undef :: undef :: undef :: undef :: undef :: undef :: undef :: undef :: []) Tryd.func3 rfl (by kernel_rfl) ?_
  refine wp_seq ?_
  refine wp_region_lit ?_
  refine ql (.bool false) (by kernel_rfl) (by kernel_rfl) ?_
  refine wpList_nil ?_
  refine x_then ?_
  refine wp_seq ?_
  refine wp_seq ?_
  refine wp_region_lit ?_
  refine ql (.slice Al l.length cl) (by kernel_rfl) (by kernel_rfl) ?_
  refine ql (.int .i64 (l.length : Int)) (by kernel_rfl) (by kernel_rfl) ?_
  by_cases hc1 : (l.length : Int) > (30 : Int)
  · skip
    refine ql (.bool true) (by kernel_rfl) (R_bool (p := (l.length : Int) > (30 : Int)) (by kernel_rfl) (hc1)) ?_
    refine ql (.bool true) (by kernel_rfl) (by kernel_rfl) ?_
    refine qln (by kernel_rfl) ?_
    refine qln (by kernel_rfl) ?_
    refine qln (by kernel_rfl) ?_
    refine qln (by kernel_rfl) ?_
    refine qln (by kernel_rfl) ?_
    refine qln (by kernel_rfl) ?_
    refine ql (.bool true) (by kernel_rfl) (by kernel_rfl) ?_
    refine ql (.bool true) (by kernel_rfl) (by kernel_rfl) ?_
    refine qln (by kernel_rfl) ?_
    refine qln (by kernel_rfl) ?_
    refine ql (.bool true) (by kernel_rfl) (by kernel_rfl) ?_
    refine ql (.bool true) (by kernel_rfl) (by kernel_rfl) ?_
    refine qln (by kernel_rfl) ?_
    refine qln (by kernel_rfl) ?_
    refine ql (.bool true) (by kernel_rfl) (by kernel_rfl) ?_
    refine wpList_nil ?_
    refine x_then ?_
    refine wp_cond_true (by kernel_rfl) ?_
    refine wp_seq ?_
    refine wp_region_lit ?_
    refine qc (f := 5) (args := #[]) (by kernel_rfl) (R_call #[] Tryd.func5 (by kernel_rfl) (by kernel_rfl) (by kernel_rfl)) ?_
    refine (mawake _).mono ?_
    rintro e W2 ⟨rfl, H_⟩
    refine ⟨_, rfl, ?_⟩
    replace HS : St W (owns []) W2 [] := HS.join (F := []) (G := []) H_
    clear H_
    refine ql (.bool true) (by kernel_rfl) (by kernel_rfl) ?_
    refine wpList_nil ?_
    refine x_then ?_
    refine wp_ret ?_
    refine x_thenR ?_
    refine ret_ (.bool true) (by kernel_rfl) ?_
    exact ⟨rfl, HS⟩
  · skip
    refine ql (.bool false) (by kernel_rfl) (R_nbool (p := (l.length : Int) > (30 : Int)) (by kernel_rfl) (hc1)) ?_
    refine ql (.bool false) (by kernel_rfl) (by kernel_rfl) ?_
    refine ql (.int .i64 n) (by kernel_rfl) (by kernel_rfl) ?_
    by_cases hc3 : n > (200 : Int)
    · skip
      refine ql (.bool true) (by kernel_rfl) (R_bool (p := n > (200 : Int)) (by kernel_rfl) (hc3)) ?_
      refine ql (.bool true) (by kernel_rfl) (by kernel_rfl) ?_
      refine ql (.int .i64 n) (by kernel_rfl) (by kernel_rfl) ?_
      by_cases hc4 : n ≤ (1048576 : Int)
      · skip
        refine ql (.bool true) (by kernel_rfl) (R_bool (p := n ≤ (1048576 : Int)) (by kernel_rfl) (hc4)) ?_
        refine ql (.bool true) (by kernel_rfl) (by kernel_rfl) ?_
        refine ql (.bool true) (by kernel_rfl) (by kernel_rfl) ?_
        refine ql (.bool true) (by kernel_rfl) (by kernel_rfl) ?_
        refine qln (by kernel_rfl) ?_
        refine qln (by kernel_rfl) ?_
        refine ql (.bool true) (by kernel_rfl) (by kernel_rfl) ?_
        refine ql (.bool true) (by kernel_rfl) (by kernel_rfl) ?_
        refine qln (by kernel_rfl) ?_
        refine qln (by kernel_rfl) ?_
        refine ql (.bool true) (by kernel_rfl) (by kernel_rfl) ?_
        refine wpList_nil ?_
        refine x_then ?_
        refine wp_cond_true (by kernel_rfl) ?_
        refine wp_seq ?_
        refine wp_region_lit ?_
        refine qc (f := 5) (args := #[]) (by kernel_rfl) (R_call #[] Tryd.func5 (by kernel_rfl) (by kernel_rfl) (by kernel_rfl)) ?_
        refine (mawake _).mono ?_
        rintro e W5 ⟨rfl, H_⟩
        refine ⟨_, rfl, ?_⟩
        replace HS : St W (owns []) W5 [] := HS.join (F := []) (G := []) H_
        clear H_
        refine ql (.bool true) (by kernel_rfl) (by kernel_rfl) ?_
        refine wpList_nil ?_
        refine x_then ?_
        refine wp_ret ?_
        refine x_thenR ?_
        refine ret_ (.bool true) (by kernel_rfl) ?_
        exact ⟨rfl, HS⟩
      · skip
        refine ql (.bool false) (by kernel_rfl) (R_nbool (p := n ≤ (1048576 : Int)) (by kernel_rfl) (hc4)) ?_
        refine ql (.bool false) (by kernel_rfl) (by kernel_rfl) ?_
        refine ql (.bool false) (by kernel_rfl) (by kernel_rfl) ?_
        refine ql (.bool false) (by kernel_rfl) (by kernel_rfl) ?_
        refine ql (.int .i64 m) (by kernel_rfl) (by kernel_rfl) ?_
        by_cases hc6 : m < (0 : Int)
        · skip
          refine ql (.bool true) (by kernel_rfl) (R_bool (p := m < (0 : Int)) (by kernel_rfl) (hc6)) ?_
          refine ql (.bool true) (by kernel_rfl) (by kernel_rfl) ?_
          refine ql (.bool true) (by kernel_rfl) (by kernel_rfl) ?_
          refine qln (by kernel_rfl) ?_
          refine qln (by kernel_rfl) ?_
          refine ql (.bool true) (by kernel_rfl) (by kernel_rfl) ?_
          refine wpList_nil ?_
          refine x_then ?_
          refine wp_cond_true (by kernel_rfl) ?_
          refine wp_seq ?_
          refine wp_region_lit ?_
          refine qc (f := 5) (args := #[]) (by kernel_rfl) (R_call #[] Tryd.func5 (by kernel_rfl) (by kernel_rfl) (by kernel_rfl)) ?_
          refine (mawake _).mono ?_
          rintro e W7 ⟨rfl, H_⟩
          refine ⟨_, rfl, ?_⟩
          replace HS : St W (owns []) W7 [] := HS.join (F := []) (G := []) H_
          clear H_
          refine ql (.bool true) (by kernel_rfl) (by kernel_rfl) ?_
          refine wpList_nil ?_
          refine x_then ?_
          refine wp_ret ?_
          refine x_thenR ?_
          refine ret_ (.bool true) (by kernel_rfl) ?_
          exact ⟨rfl, HS⟩
        · skip
          refine ql (.bool false) (by kernel_rfl) (R_nbool (p := m < (0 : Int)) (by kernel_rfl) (hc6)) ?_
          refine ql (.bool false) (by kernel_rfl) (by kernel_rfl) ?_
          refine ql (.bool false) (by kernel_rfl) (by kernel_rfl) ?_
          refine ql (.int .i64 m) (by kernel_rfl) (by kernel_rfl) ?_
          by_cases hc8 : m > (200 : Int)
          · skip
            refine ql (.bool true) (by kernel_rfl) (R_bool (p := m > (200 : Int)) (by kernel_rfl) (hc8)) ?_
            refine ql (.bool true) (by kernel_rfl) (by kernel_rfl) ?_
            refine wpList_nil ?_
            refine x_then ?_
            refine wp_cond_true (by kernel_rfl) ?_
            refine wp_seq ?_
            refine wp_region_lit ?_
            refine qc (f := 5) (args := #[]) (by kernel_rfl) (R_call #[] Tryd.func5 (by kernel_rfl) (by kernel_rfl) (by kernel_rfl)) ?_
            refine (mawake _).mono ?_
            rintro e W9 ⟨rfl, H_⟩
            refine ⟨_, rfl, ?_⟩
            replace HS : St W (owns []) W9 [] := HS.join (F := []) (G := []) H_
            clear H_
            refine ql (.bool true) (by kernel_rfl) (by kernel_rfl) ?_
            refine wpList_nil ?_
            refine x_then ?_
            refine wp_ret ?_
            refine x_thenR ?_
            refine ret_ (.bool true) (by kernel_rfl) ?_
            exact ⟨rfl, HS⟩
          · skip
            refine ql (.bool false) (by kernel_rfl) (R_nbool (p := m > (200 : Int)) (by kernel_rfl) (hc8)) ?_
            refine ql (.bool false) (by kernel_rfl) (by kernel_rfl) ?_
            refine wpList_nil ?_
            refine x_then ?_
            refine wp_cond_false (by kernel_rfl) ?_
            refine wp_skip ?_
            refine x_then ?_
            refine wp_seq ?_
            refine wp_region_lit ?_
            refine ql (.int .i64 n) (by kernel_rfl) (by kernel_rfl) ?_
            refine qc (f := 6) (args := #[.int .i64 n]) (by kernel_rfl) (R_call #[.int .i64 n] Tryd.func6 (by kernel_rfl) (by kernel_rfl) (by kernel_rfl)) ?_
            refine (mnew_over n _ (by omega)).mono ?_
            rintro e W10 ⟨rfl, H_⟩
            refine ⟨_, rfl, ?_⟩
            replace HS : St W (owns []) W10 [] := HS.join (F := []) (G := []) H_
            clear H_
            refine ql (.tuple #[.pointer none, .int .i64 5]) (by kernel_rfl) (by kernel_rfl) ?_
            refine ql (.pointer none) (by kernel_rfl) (by kernel_rfl) ?_
            refine ql (.int .i64 5) (by kernel_rfl) (by kernel_rfl) ?_
            refine ql (.pointer none) (by kernel_rfl) (by kernel_rfl) ?_
            refine ql (.int .i64 5) (by kernel_rfl) (by kernel_rfl) ?_
            refine wpList_nil ?_
            refine x_then ?_
            refine wp_seq ?_
            refine wp_region_lit ?_
            refine ql (.int .i64 m) (by kernel_rfl) (by kernel_rfl) ?_
            refine qc (f := 6) (args := #[.int .i64 m]) (by kernel_rfl) (R_call #[.int .i64 m] Tryd.func6 (by kernel_rfl) (by kernel_rfl) (by kernel_rfl)) ?_
            refine (mnew_ok m _ (by omega) (by omega)).mono ?_
            rintro e W15 ⟨g11, x12, rfl, H_, hok13, hb14⟩
            refine ⟨_, rfl, ?_⟩
            replace HS : St W (owns []) W15 [many (mxE 53 74 21 62 63 g11 m ([]) x12)] := HS.join (F := []) (G := [many (mxE 53 74 21 62 63 g11 m ([]) x12)]) H_
            clear H_
            refine ql (.tuple #[.pointer (some ⟨g11, 0, none⟩), .int .i64 0]) (by kernel_rfl) (by kernel_rfl) ?_
            refine ql (.pointer (some ⟨g11, 0, none⟩)) (by kernel_rfl) (by kernel_rfl) ?_
            refine ql (.int .i64 0) (by kernel_rfl) (by kernel_rfl) ?_
            refine ql (.pointer (some ⟨g11, 0, none⟩)) (by kernel_rfl) (by kernel_rfl) ?_
            refine ql (.int .i64 0) (by kernel_rfl) (by kernel_rfl) ?_
            refine wpList_nil ?_
            refine x_then ?_
            refine wp_seq ?_
            refine wp_seq ?_
            refine wp_region_lit ?_
            refine ql (.int .i64 n) (by kernel_rfl) (by kernel_rfl) ?_
            refine ql (.bool false) (by kernel_rfl) (R_nbool (p := n < (0 : Int)) (by kernel_rfl) (by omega)) ?_
            refine wpList_nil ?_
            refine x_then ?_
            refine wp_cond_false (by kernel_rfl) ?_
            refine wp_skip ?_
            refine x_then ?_
            refine wp_seq ?_
            refine wp_seq ?_
            refine wp_region_lit ?_
            refine ql (.int .i64 n) (by kernel_rfl) (by kernel_rfl) ?_
            refine ql (.bool true) (by kernel_rfl) (R_bool (p := n > (1048576 : Int)) (by kernel_rfl) (by omega)) ?_
            refine wpList_nil ?_
            refine x_then ?_
            refine wp_cond_true (by kernel_rfl) ?_
            refine wp_seq ?_
            refine wp_region_lit ?_
            refine ql (.pointer none) (by kernel_rfl) (by kernel_rfl) ?_
            refine ql (.bool true) (by kernel_rfl) (by kernel_rfl) ?_
            refine ql (.bool true) (by kernel_rfl) (by kernel_rfl) ?_
            refine ql (.int .i64 5) (by kernel_rfl) (by kernel_rfl) ?_
            refine ql (.bool true) (by kernel_rfl) (R_beq (b := ((5 : Int) == 5)) (by kernel_rfl) (by decide)) ?_
            refine ql (.bool true) (by kernel_rfl) (by kernel_rfl) ?_
            refine ql (.bool true) (by kernel_rfl) (by kernel_rfl) ?_
            refine qc (f := 5) (args := #[]) (by kernel_rfl) (R_call #[] Tryd.func5 (by kernel_rfl) (by kernel_rfl) (by kernel_rfl)) ?_
            refine (mawake _).mono ?_
            rintro e W16 ⟨rfl, H_⟩
            refine ⟨_, rfl, ?_⟩
            replace HS : St W (owns []) W16 [many (mxE 53 74 21 62 63 g11 m ([]) x12)] := HS.join (F := []) (G := []) H_
            clear H_
            refine ql (.bool true) (by kernel_rfl) (by kernel_rfl) ?_
            refine ql (.bool true) (by kernel_rfl) (by kernel_rfl) ?_
            refine wpList_nil ?_
            refine x_then ?_
            refine wp_ret ?_
            refine x_thenR ?_
            refine ret_ (.bool true) (by kernel_rfl) ?_
            replace HS := HS.drop1
            exact ⟨rfl, HS⟩
    · skip
      refine ql (.bool false) (by kernel_rfl) (R_nbool (p := n > (200 : Int)) (by kernel_rfl) (hc3)) ?_
      refine ql (.bool false) (by kernel_rfl) (by kernel_rfl) ?_
      refine qln (by kernel_rfl) ?_
      refine qln (by kernel_rfl) ?_
      refine ql (.bool false) (by kernel_rfl) (by kernel_rfl) ?_
      refine ql (.bool false) (by kernel_rfl) (by kernel_rfl) ?_
      refine ql (.bool false) (by kernel_rfl) (by kernel_rfl) ?_
      refine ql (.int .i64 m) (by kernel_rfl) (by kernel_rfl) ?_
      by_cases hc17 : m < (0 : Int)
      · skip
        refine ql (.bool true) (by kernel_rfl) (R_bool (p := m < (0 : Int)) (by kernel_rfl) (hc17)) ?_
        refine ql (.bool true) (by kernel_rfl) (by kernel_rfl) ?_
        refine ql (.bool true) (by kernel_rfl) (by kernel_rfl) ?_
        refine qln (by kernel_rfl) ?_
        refine qln (by kernel_rfl) ?_
        refine ql (.bool true) (by kernel_rfl) (by kernel_rfl) ?_
        refine wpList_nil ?_
        refine x_then ?_
        refine wp_cond_true (by kernel_rfl) ?_
        refine wp_seq ?_
        refine wp_region_lit ?_
        refine qc (f := 5) (args := #[]) (by kernel_rfl) (R_call #[] Tryd.func5 (by kernel_rfl) (by kernel_rfl) (by kernel_rfl)) ?_
        refine (mawake _).mono ?_
        rintro e W18 ⟨rfl, H_⟩
        refine ⟨_, rfl, ?_⟩
        replace HS : St W (owns []) W18 [] := HS.join (F := []) (G := []) H_
        clear H_
        refine ql (.bool true) (by kernel_rfl) (by kernel_rfl) ?_
        refine wpList_nil ?_
        refine x_then ?_
        refine wp_ret ?_
        refine x_thenR ?_
        refine ret_ (.bool true) (by kernel_rfl) ?_
        exact ⟨rfl, HS⟩
      · skip
        refine ql (.bool false) (by kernel_rfl) (R_nbool (p := m < (0 : Int)) (by kernel_rfl) (hc17)) ?_
        refine ql (.bool false) (by kernel_rfl) (by kernel_rfl) ?_
        refine ql (.bool false) (by kernel_rfl) (by kernel_rfl) ?_
        refine ql (.int .i64 m) (by kernel_rfl) (by kernel_rfl) ?_
        by_cases hc19 : m > (200 : Int)
        · skip
          refine ql (.bool true) (by kernel_rfl) (R_bool (p := m > (200 : Int)) (by kernel_rfl) (hc19)) ?_
          refine ql (.bool true) (by kernel_rfl) (by kernel_rfl) ?_
          refine wpList_nil ?_
          refine x_then ?_
          refine wp_cond_true (by kernel_rfl) ?_
          refine wp_seq ?_
          refine wp_region_lit ?_
          refine qc (f := 5) (args := #[]) (by kernel_rfl) (R_call #[] Tryd.func5 (by kernel_rfl) (by kernel_rfl) (by kernel_rfl)) ?_
          refine (mawake _).mono ?_
          rintro e W20 ⟨rfl, H_⟩
          refine ⟨_, rfl, ?_⟩
          replace HS : St W (owns []) W20 [] := HS.join (F := []) (G := []) H_
          clear H_
          refine ql (.bool true) (by kernel_rfl) (by kernel_rfl) ?_
          refine wpList_nil ?_
          refine x_then ?_
          refine wp_ret ?_
          refine x_thenR ?_
          refine ret_ (.bool true) (by kernel_rfl) ?_
          exact ⟨rfl, HS⟩
        · skip
          refine ql (.bool false) (by kernel_rfl) (R_nbool (p := m > (200 : Int)) (by kernel_rfl) (hc19)) ?_
          refine ql (.bool false) (by kernel_rfl) (by kernel_rfl) ?_
          refine wpList_nil ?_
          refine x_then ?_
          refine wp_cond_false (by kernel_rfl) ?_
          refine wp_skip ?_
          refine x_then ?_
          refine wp_seq ?_
          refine wp_region_lit ?_
          refine ql (.int .i64 n) (by kernel_rfl) (by kernel_rfl) ?_
          refine qc (f := 6) (args := #[.int .i64 n]) (by kernel_rfl) (R_call #[.int .i64 n] Tryd.func6 (by kernel_rfl) (by kernel_rfl) (by kernel_rfl)) ?_
          by_cases hv9 : n < 0
          · skip
            refine (mnew_arg n _ hv9).mono ?_
            rintro e W21 ⟨rfl, H_⟩
            refine ⟨_, rfl, ?_⟩
            replace HS : St W (owns []) W21 [] := HS.join (F := []) (G := []) H_
            clear H_
            refine ql (.tuple #[.pointer none, .int .i64 2]) (by kernel_rfl) (by kernel_rfl) ?_
            refine ql (.pointer none) (by kernel_rfl) (by kernel_rfl) ?_
            refine ql (.int .i64 2) (by kernel_rfl) (by kernel_rfl) ?_
            refine ql (.pointer none) (by kernel_rfl) (by kernel_rfl) ?_
            refine ql (.int .i64 2) (by kernel_rfl) (by kernel_rfl) ?_
            refine wpList_nil ?_
            refine x_then ?_
            refine wp_seq ?_
            refine wp_region_lit ?_
            refine ql (.int .i64 m) (by kernel_rfl) (by kernel_rfl) ?_
            refine qc (f := 6) (args := #[.int .i64 m]) (by kernel_rfl) (R_call #[.int .i64 m] Tryd.func6 (by kernel_rfl) (by kernel_rfl) (by kernel_rfl)) ?_
            refine (mnew_ok m _ (by omega) (by omega)).mono ?_
            rintro e W26 ⟨g22, x23, rfl, H_, hok24, hb25⟩
            refine ⟨_, rfl, ?_⟩
            replace HS : St W (owns []) W26 [many (mxE 53 74 21 62 63 g22 m ([]) x23)] := HS.join (F := []) (G := [many (mxE 53 74 21 62 63 g22 m ([]) x23)]) H_
            clear H_
            refine ql (.tuple #[.pointer (some ⟨g22, 0, none⟩), .int .i64 0]) (by kernel_rfl) (by kernel_rfl) ?_
            refine ql (.pointer (some ⟨g22, 0, none⟩)) (by kernel_rfl) (by kernel_rfl) ?_
            refine ql (.int .i64 0) (by kernel_rfl) (by kernel_rfl) ?_
            refine ql (.pointer (some ⟨g22, 0, none⟩)) (by kernel_rfl) (by kernel_rfl) ?_
            refine ql (.int .i64 0) (by kernel_rfl) (by kernel_rfl) ?_
            refine wpList_nil ?_
            refine x_then ?_
            refine wp_seq ?_
            refine wp_seq ?_
            refine wp_region_lit ?_
            refine ql (.int .i64 n) (by kernel_rfl) (by kernel_rfl) ?_
            refine ql (.bool true) (by kernel_rfl) (R_bool (p := n < (0 : Int)) (by kernel_rfl) (by omega)) ?_
            refine wpList_nil ?_
            refine x_then ?_
            refine wp_cond_true (by kernel_rfl) ?_
            refine wp_seq ?_
            refine wp_region_lit ?_
            refine ql (.pointer none) (by kernel_rfl) (by kernel_rfl) ?_
            refine ql (.bool true) (by kernel_rfl) (by kernel_rfl) ?_
            refine ql (.bool true) (by kernel_rfl) (by kernel_rfl) ?_
            refine ql (.int .i64 2) (by kernel_rfl) (by kernel_rfl) ?_
            refine ql (.bool true) (by kernel_rfl) (R_beq (b := ((2 : Int) == 2)) (by kernel_rfl) (by decide)) ?_
            refine ql (.bool true) (by kernel_rfl) (by kernel_rfl) ?_
            refine ql (.bool true) (by kernel_rfl) (by kernel_rfl) ?_
            refine qc (f := 5) (args := #[]) (by kernel_rfl) (R_call #[] Tryd.func5 (by kernel_rfl) (by kernel_rfl) (by kernel_rfl)) ?_
            refine (mawake _).mono ?_
            rintro e W27 ⟨rfl, H_⟩
            refine ⟨_, rfl, ?_⟩
            replace HS : St W (owns []) W27 [many (mxE 53 74 21 62 63 g22 m ([]) x23)] := HS.join (F := []) (G := []) H_
            clear H_
            refine ql (.bool true) (by kernel_rfl) (by kernel_rfl) ?_
            refine ql (.bool true) (by kernel_rfl) (by kernel_rfl) ?_
            refine wpList_nil ?_
            refine x_then ?_
            refine wp_ret ?_
            refine x_thenR ?_
            refine ret_ (.bool true) (by kernel_rfl) ?_
            replace HS := HS.drop1
            exact ⟨rfl, HS⟩
          · skip
            refine (mnew_ok n _ (by omega) (by omega)).mono ?_
            rintro e W32 ⟨g28, x29, rfl, H_, hok30, hb31⟩
            refine ⟨_, rfl, ?_⟩
            replace HS : St W (owns []) W32 [many (mxE 53 74 21 62 63 g28 n ([]) x29)] := HS.join (F := []) (G := [many (mxE 53 74 21 62 63 g28 n ([]) x29)]) H_
            clear H_
            refine ql (.tuple #[.pointer (some ⟨g28, 0, none⟩), .int .i64 0]) (by kernel_rfl) (by kernel_rfl) ?_
            refine ql (.pointer (some ⟨g28, 0, none⟩)) (by kernel_rfl) (by kernel_rfl) ?_
            refine ql (.int .i64 0) (by kernel_rfl) (by kernel_rfl) ?_
            refine ql (.pointer (some ⟨g28, 0, none⟩)) (by kernel_rfl) (by kernel_rfl) ?_
            refine ql (.int .i64 0) (by kernel_rfl) (by kernel_rfl) ?_
            refine wpList_nil ?_
            refine x_then ?_
            refine wp_seq ?_
            refine wp_region_lit ?_
            refine ql (.int .i64 m) (by kernel_rfl) (by kernel_rfl) ?_
            refine qc (f := 6) (args := #[.int .i64 m]) (by kernel_rfl) (R_call #[.int .i64 m] Tryd.func6 (by kernel_rfl) (by kernel_rfl) (by kernel_rfl)) ?_
            refine (mnew_ok m _ (by omega) (by omega)).mono ?_
            rintro e W37 ⟨g33, x34, rfl, H_, hok35, hb36⟩
            refine ⟨_, rfl, ?_⟩
            replace HS : St W (owns []) W37 [many (mxE 53 74 21 62 63 g33 m ([]) x34), many (mxE 53 74 21 62 63 g28 n ([]) x29)] := HS.join (F := []) (G := [many (mxE 53 74 21 62 63 g33 m ([]) x34)]) H_
            clear H_
            refine ql (.tuple #[.pointer (some ⟨g33, 0, none⟩), .int .i64 0]) (by kernel_rfl) (by kernel_rfl) ?_
            refine ql (.pointer (some ⟨g33, 0, none⟩)) (by kernel_rfl) (by kernel_rfl) ?_
            refine ql (.int .i64 0) (by kernel_rfl) (by kernel_rfl) ?_
            refine ql (.pointer (some ⟨g33, 0, none⟩)) (by kernel_rfl) (by kernel_rfl) ?_
            refine ql (.int .i64 0) (by kernel_rfl) (by kernel_rfl) ?_
            refine wpList_nil ?_
            refine x_then ?_
            refine wp_seq ?_
            refine wp_seq ?_
            refine wp_region_lit ?_
            refine ql (.int .i64 n) (by kernel_rfl) (by kernel_rfl) ?_
            refine ql (.bool false) (by kernel_rfl) (R_nbool (p := n < (0 : Int)) (by kernel_rfl) (by omega)) ?_
            refine wpList_nil ?_
            refine x_then ?_
            refine wp_cond_false (by kernel_rfl) ?_
            refine wp_skip ?_
            refine x_then ?_
            refine wp_seq ?_
            refine wp_seq ?_
            refine wp_region_lit ?_
            refine ql (.int .i64 n) (by kernel_rfl) (by kernel_rfl) ?_
            refine ql (.bool false) (by kernel_rfl) (R_nbool (p := n > (1048576 : Int)) (by kernel_rfl) (by omega)) ?_
            refine wpList_nil ?_
            refine x_then ?_
            refine wp_cond_false (by kernel_rfl) ?_
            refine wp_skip ?_
            refine x_then ?_
            refine wp_seq ?_
            refine wp_seq ?_
            refine wp_region_lit ?_
            refine ql (.pointer (some ⟨g28, 0, none⟩)) (by kernel_rfl) (by kernel_rfl) ?_
            refine ql (.bool false) (by kernel_rfl) (by kernel_rfl) ?_
            refine ql (.bool false) (by kernel_rfl) (by kernel_rfl) ?_
            refine ql (.pointer (some ⟨g33, 0, none⟩)) (by kernel_rfl) (by kernel_rfl) ?_
            refine ql (.bool false) (by kernel_rfl) (by kernel_rfl) ?_
            refine ql (.bool false) (by kernel_rfl) (by kernel_rfl) ?_
            refine ql (.bool false) (by kernel_rfl) (by kernel_rfl) ?_
            refine ql (.int .i64 0) (by kernel_rfl) (by kernel_rfl) ?_
            refine ql (.bool false) (by kernel_rfl) (R_beq (b := ((0 : Int) != 0)) (by kernel_rfl) (by decide)) ?_
            refine ql (.bool false) (by kernel_rfl) (by kernel_rfl) ?_
            refine ql (.bool false) (by kernel_rfl) (by kernel_rfl) ?_
            refine ql (.int .i64 0) (by kernel_rfl) (by kernel_rfl) ?_
            refine ql (.bool false) (by kernel_rfl) (R_beq (b := ((0 : Int) != 0)) (by kernel_rfl) (by decide)) ?_
            refine ql (.bool false) (by kernel_rfl) (by kernel_rfl) ?_
            refine wpList_nil ?_
            refine x_then ?_
            refine wp_cond_false (by kernel_rfl) ?_
            refine wp_skip ?_
            refine x_then ?_
            refine wp_seq ?_
            refine wp_region_lit ?_
            refine ql (.int .i64 n) (by kernel_rfl) (by kernel_rfl) ?_
            refine ql (.agg #[.int .i64 n, .slice none 0 0]) (by kernel_rfl) (by kernel_rfl) ?_
            refine ql (.agg #[.int .i64 n, .slice none 0 0, .bool false]) (by kernel_rfl) (by kernel_rfl) ?_
            refine ql (.int .i64 m) (by kernel_rfl) (by kernel_rfl) ?_
            refine ql (.agg #[.int .i64 m, .slice none 0 0]) (by kernel_rfl) (by kernel_rfl) ?_
            refine ql (.agg #[.int .i64 m, .slice none 0 0, .bool false]) (by kernel_rfl) (by kernel_rfl) ?_
            refine kb HS [.int .i64 0, .slice none 0 0, .bool false] 32 (fun g => .pointer (some ⟨g, 0, none⟩)) (by kernel_rfl) (by kernel_rfl) ?_
            intro g38 W39 H_
            replace HS : St W (owns []) W39 [blk g38 [.int .i64 0, .slice none 0 0, .bool false] 32, many (mxE 53 74 21 62 63 g33 m ([]) x34), many (mxE 53 74 21 62 63 g28 n ([]) x29)] := H_
            clear H_
            refine kb HS [.int .i64 0, .slice none 0 0, .bool false] 32 (fun g => .pointer (some ⟨g, 0, none⟩)) (by kernel_rfl) (by kernel_rfl) ?_
            intro g40 W41 H_
            replace HS : St W (owns []) W41 [blk g40 [.int .i64 0, .slice none 0 0, .bool false] 32, blk g38 [.int .i64 0, .slice none 0 0, .bool false] 32, many (mxE 53 74 21 62 63 g33 m ([]) x34), many (mxE 53 74 21 62 63 g28 n ([]) x29)] := H_
            clear H_
            refine ks (v := .agg #[.int .i64 n, .slice none 0 0, .bool false]) HS 1 rfl (0) [.int .i64 n, .slice none 0 0, .bool false] (by kernel_rfl) (by kernel_rfl) (by kernel_rfl) (by kernel_rfl) (by kernel_rfl) (one_ (by kernel_rfl)) (Nat.le_of_ble_eq_true rfl) rfl ?_
            intro W42 H_
            replace HS : St W (owns []) W42 [blk g40 [.int .i64 0, .slice none 0 0, .bool false] 32, blk g38 [.int .i64 n, .slice none 0 0, .bool false] 32, many (mxE 53 74 21 62 63 g33 m ([]) x34), many (mxE 53 74 21 62 63 g28 n ([]) x29)] := H_
            clear H_
            refine ks (v := .agg #[.int .i64 m, .slice none 0 0, .bool false]) HS 0 rfl (0) [.int .i64 m, .slice none 0 0, .bool false] (by kernel_rfl) (by kernel_rfl) (by kernel_rfl) (by kernel_rfl) (by kernel_rfl) (one_ (by kernel_rfl)) (Nat.le_of_ble_eq_true rfl) rfl ?_
            intro W43 H_
            replace HS : St W (owns []) W43 [blk g40 [.int .i64 m, .slice none 0 0, .bool false] 32, blk g38 [.int .i64 n, .slice none 0 0, .bool false] 32, many (mxE 53 74 21 62 63 g33 m ([]) x34), many (mxE 53 74 21 62 63 g28 n ([]) x29)] := H_
            clear H_
            refine wpList_nil ?_
            refine x_then ?_
            refine wp_seq ?_
            refine wp_seq ?_
            refine wp_region_lit ?_
            refine ql (.int .i64 0) (by kernel_rfl) (by kernel_rfl) ?_
            refine wpList_nil ?_
            refine x_then ?_
            refine wp_block ?_
            replace HS : St W (owns []) W43 [row none 0 0 (ci .i64 ([])) 3 1, blk g40 [.int .i64 m, .slice none 0 0, .bool false] 32, blk g38 [.int .i64 n, .slice none 0 0, .bool false] 32, many (mxE 53 74 21 62 63 g33 m ([]) x34), many (mxE 53 74 21 62 63 g28 n ([]) x29)] := (HS.nilRow 3 1).cast_ (by kernel_rfl)
            replace HS : St W (owns []) W43 [row none 0 0 (ci .i64 ([])) 3 1, row none 0 0 (ci .i64 ([])) 3 1, blk g40 [.int .i64 m, .slice none 0 0, .bool false] 32, blk g38 [.int .i64 n, .slice none 0 0, .bool false] 32, many (mxE 53 74 21 62 63 g33 m ([]) x34), many (mxE 53 74 21 62 63 g28 n ([]) x29)] := (HS.nilRow 3 1).cast_ (by kernel_rfl)
            replace HS : St W (owns []) W43 [blk g38 [.int .i64 n, .slice none 0 0, .bool false] 32, row none 0 0 (ci .i64 ([])) 3 1, blk g40 [.int .i64 m, .slice none 0 0, .bool false] 32, row none 0 0 (ci .i64 ([])) 3 1, many (mxE 53 74 21 62 63 g28 n ([]) x29), many (mxE 53 74 21 62 63 g33 m ([]) x34)] := HS.perm (perm_ [3, 0, 2, 1, 5, 4] (by kernel_rfl) rfl)
            replace HS : St W (owns []) W43 [blk g38 [.int .i64 n, .slice none 0 0, .bool x29.b] 32, row none 0 0 (ci .i64 ([])) 3 1, blk g40 [.int .i64 m, .slice none 0 0, .bool x34.b] 32, row none 0 0 (ci .i64 ([])) 3 1, many (mxE 53 74 21 62 63 g28 n ([]) x29), many (mxE 53 74 21 62 63 g33 m ([]) x34)] := by rw [hb31, hb36]; exact HS
            refine wp_loop_ghost (fun kq a' w' => ∃ (J44 : Nat → Value) (k : Int) (L : List Int) (M : List Int) (A1 : Option Addr) (c1 : Nat) (A2 : Option Addr) (c2 : Nat) (x : MxF) (y : MxF) , a' = Fr ((.int .i64 n) :: (.int .i64 m) :: (.slice Al l.length cl) :: (.int .i64 i) :: undef :: undef :: undef :: undef :: ((J44 8)) :: (.pointer (some ⟨g28, 0, none⟩)) :: (.int .i64 0) :: (.pointer (some ⟨g33, 0, none⟩)) :: (.int .i64 0) :: (.pointer (some ⟨g38, 0, none⟩)) :: (.pointer (some ⟨g40, 0, none⟩)) :: (.int .i64 k) :: ((J44 16)) :: ((J44 17)) :: ((J44 18)) :: (.slice Al l.length cl) :: (.int .i64 (l.length : Int)) :: (.bool false) :: (.bool false) :: (.int .i64 n) :: (.bool false) :: (.bool false) :: undef :: undef :: (.bool false) :: (.bool false) :: (.bool false) :: (.int .i64 m) :: (.bool false) :: (.bool false) :: (.bool false) :: (.int .i64 m) :: (.bool false) :: (.bool false) :: undef :: (.tuple #[.pointer (some ⟨g28, 0, none⟩), .int .i64 0]) :: (.int .i64 n) :: (.tuple #[.pointer (some ⟨g28, 0, none⟩), .int .i64 0]) :: (.pointer (some ⟨g28, 0, none⟩)) :: (.int .i64 0) :: (.tuple #[.pointer (some ⟨g33, 0, none⟩), .int .i64 0]) :: (.int .i64 m) :: (.tuple #[.pointer (some ⟨g33, 0, none⟩), .int .i64 0]) :: (.pointer (some ⟨g33, 0, none⟩)) :: (.int .i64 0) :: (.int .i64 n) :: (.bool false) :: undef :: undef :: undef :: undef :: undef :: undef :: undef :: undef :: undef :: (.int .i64 n) :: (.bool false) :: undef :: undef :: undef :: undef :: undef :: undef :: undef :: undef :: undef :: (.pointer (some ⟨g28, 0, none⟩)) :: (.bool false) :: (.bool false) :: (.pointer (some ⟨g33, 0, none⟩)) :: (.bool false) :: (.bool false) :: (.bool false) :: (.int .i64 0) :: (.bool false) :: (.bool false) :: (.bool false) :: (.int .i64 0) :: (.bool false) :: (.bool false) :: (.int .i64 n) :: (.agg #[.int .i64 n, .slice none 0 0]) :: (.agg #[.int .i64 n, .slice none 0 0, .bool false]) :: (.int .i64 m) :: (.agg #[.int .i64 m, .slice none 0 0]) :: (.agg #[.int .i64 m, .slice none 0 0, .bool false]) :: ((J44 91)) :: ((J44 92)) :: ((J44 93)) :: ((J44 94)) :: ((J44 95)) :: ((J44 96)) :: ((J44 97)) :: ((J44 98)) :: ((J44 99)) :: ((J44 100)) :: ((J44 101)) :: ((J44 102)) :: ((J44 103)) :: ((J44 104)) :: ((J44 105)) :: ((J44 106)) :: ((J44 107)) :: ((J44 108)) :: ((J44 109)) :: ((J44 110)) :: ((J44 111)) :: ((J44 112)) :: ((J44 113)) :: ((J44 114)) :: ((J44 115)) :: ((J44 116)) :: ((J44 117)) :: ((J44 118)) :: ((J44 119)) :: ((J44 120)) :: ((J44 121)) :: ((J44 122)) :: ((J44 123)) :: ((J44 124)) :: ((J44 125)) :: ((J44 126)) :: ((J44 127)) :: ((J44 128)) :: ((J44 129)) :: ((J44 130)) :: ((J44 131)) :: ((J44 132)) :: ((J44 133)) :: ((J44 134)) :: ((J44 135)) :: ((J44 136)) :: undef :: []) ∧ kq = (l.length - (k).toNat) ∧ (0 ≤ k) ∧ (k ≤ l.length) ∧ (x.ok n L) ∧ (y.ok m M) ∧ St W (owns []) w' [blk g38 [.int .i64 n, .slice A1 L.length c1, .bool x.b] 32, row A1 L.length c1 (ci .i64 L) 3 1, blk g40 [.int .i64 m, .slice A2 M.length c2, .bool y.b] 32, row A2 M.length c2 (ci .i64 M) 3 1, many (mxE 53 74 21 62 63 g28 n L x), many (mxE 53 74 21 62 63 g33 m M y)]) (l.length - ((0 : Int)).toNat) ⟨(fun k_ : Nat => List.getD ((.int .i64 n) :: (.int .i64 m) :: (.slice Al l.length cl) :: (.int .i64 i) :: undef :: undef :: undef :: undef :: (.bool false) :: (.pointer (some ⟨g28, 0, none⟩)) :: (.int .i64 0) :: (.pointer (some ⟨g33, 0, none⟩)) :: (.int .i64 0) :: (.pointer (some ⟨g38, 0, none⟩)) :: (.pointer (some ⟨g40, 0, none⟩)) :: (.int .i64 0) :: undef :: undef :: undef :: (.slice Al l.length cl) :: (.int .i64 (l.length : Int)) :: (.bool false) :: (.bool false) :: (.int .i64 n) :: (.bool false) :: (.bool false) :: undef :: undef :: (.bool false) :: (.bool false) :: (.bool false) :: (.int .i64 m) :: (.bool false) :: (.bool false) :: (.bool false) :: (.int .i64 m) :: (.bool false) :: (.bool false) :: undef :: (.tuple #[.pointer (some ⟨g28, 0, none⟩), .int .i64 0]) :: (.int .i64 n) :: (.tuple #[.pointer (some ⟨g28, 0, none⟩), .int .i64 0]) :: (.pointer (some ⟨g28, 0, none⟩)) :: (.int .i64 0) :: (.tuple #[.pointer (some ⟨g33, 0, none⟩), .int .i64 0]) :: (.int .i64 m) :: (.tuple #[.pointer (some ⟨g33, 0, none⟩), .int .i64 0]) :: (.pointer (some ⟨g33, 0, none⟩)) :: (.int .i64 0) :: (.int .i64 n) :: (.bool false) :: undef :: undef :: undef :: undef :: undef :: undef :: undef :: undef :: undef :: (.int .i64 n) :: (.bool false) :: undef :: undef :: undef :: undef :: undef :: undef :: undef :: undef :: undef :: (.pointer (some ⟨g28, 0, none⟩)) :: (.bool false) :: (.bool false) :: (.pointer (some ⟨g33, 0, none⟩)) :: (.bool false) :: (.bool false) :: (.bool false) :: (.int .i64 0) :: (.bool false) :: (.bool false) :: (.bool false) :: (.int .i64 0) :: (.bool false) :: (.bool false) :: (.int .i64 n) :: (.agg #[.int .i64 n, .slice none 0 0]) :: (.agg #[.int .i64 n, .slice none 0 0, .bool false]) :: (.int .i64 m) :: (.agg #[.int .i64 m, .slice none 0 0]) :: (.agg #[.int .i64 m, .slice none 0 0, .bool false]) :: undef :: undef :: undef :: undef :: undef :: undef :: undef :: undef :: undef :: undef :: undef :: undef :: undef :: undef :: undef :: undef :: undef :: undef :: undef :: undef :: undef :: undef :: undef :: undef :: undef :: undef :: undef :: undef :: undef :: undef :: undef :: undef :: undef :: undef :: undef :: undef :: undef :: undef :: undef :: undef :: undef :: undef :: undef :: undef :: undef :: undef :: undef :: []) k_ undef), (0 : Int), [], [], none, 0, none, 0, x29, x34, congrArg Fr (by kernel_rfl), rfl, by omega, by omega, hok30, hok35, HS⟩ ?_
            clear HS
            intro kq45 a' W46 hrel
            obtain ⟨J44, k, L, M, A1, c1, A2, c2, x, y, rfl, hk, k0, k1, hok, hok2, HS⟩ := hrel
            have hlw := hok.len (by omega)
            have hlv := hok2.len (by omega)
            refine wp_seq ?_
            refine wp_seq ?_
            refine wp_region_lit ?_
            refine ql (.int .i64 k) (by kernel_rfl) (by kernel_rfl) ?_
            refine ql (.slice Al l.length cl) (by kernel_rfl) (by kernel_rfl) ?_
            refine ql (.int .i64 (l.length : Int)) (by kernel_rfl) (by kernel_rfl) ?_
            by_cases hc47 : k < (l.length : Int)
            · skip
              refine ql (.bool true) (by kernel_rfl) (R_bool (p := k < (l.length : Int)) (by kernel_rfl) (hc47)) ?_
              refine wpList_nil ?_
              refine x_then ?_
              refine wp_cond_true (by kernel_rfl) ?_
              refine wp_skip ?_
              refine x_then ?_
              refine wp_seq ?_
              refine wp_block ?_
              refine wp_seq_cut (fun a' w' => ∃ (u48 : Nat → Value) (ga : Nat) (gb : Nat) (B1 : Option Addr) (d1 : Nat) (B2 : Option Addr) (d2 : Nat) , a' = Fr ((.int .i64 n) :: (.int .i64 m) :: (.slice Al l.length cl) :: (.int .i64 i) :: undef :: undef :: undef :: undef :: ((J44 8)) :: (.pointer (some ⟨g28, 0, none⟩)) :: (.int .i64 0) :: (.pointer (some ⟨g33, 0, none⟩)) :: (.int .i64 0) :: (.pointer (some ⟨g38, 0, none⟩)) :: (.pointer (some ⟨g40, 0, none⟩)) :: (.int .i64 k) :: (.pointer (some ⟨ga, 0, none⟩)) :: (.pointer (some ⟨gb, 0, none⟩)) :: (.bool (zB n m (gx l k).1 (gx l k).2.1 L M)) :: (.slice Al l.length cl) :: (.int .i64 (l.length : Int)) :: (.bool false) :: (.bool false) :: (.int .i64 n) :: (.bool false) :: (.bool false) :: undef :: undef :: (.bool false) :: (.bool false) :: (.bool false) :: (.int .i64 m) :: (.bool false) :: (.bool false) :: (.bool false) :: (.int .i64 m) :: (.bool false) :: (.bool false) :: undef :: (.tuple #[.pointer (some ⟨g28, 0, none⟩), .int .i64 0]) :: (.int .i64 n) :: (.tuple #[.pointer (some ⟨g28, 0, none⟩), .int .i64 0]) :: (.pointer (some ⟨g28, 0, none⟩)) :: (.int .i64 0) :: (.tuple #[.pointer (some ⟨g33, 0, none⟩), .int .i64 0]) :: (.int .i64 m) :: (.tuple #[.pointer (some ⟨g33, 0, none⟩), .int .i64 0]) :: (.pointer (some ⟨g33, 0, none⟩)) :: (.int .i64 0) :: (.int .i64 n) :: (.bool false) :: undef :: undef :: undef :: undef :: undef :: undef :: undef :: undef :: undef :: (.int .i64 n) :: (.bool false) :: undef :: undef :: undef :: undef :: undef :: undef :: undef :: undef :: undef :: (.pointer (some ⟨g28, 0, none⟩)) :: (.bool false) :: (.bool false) :: (.pointer (some ⟨g33, 0, none⟩)) :: (.bool false) :: (.bool false) :: (.bool false) :: (.int .i64 0) :: (.bool false) :: (.bool false) :: (.bool false) :: (.int .i64 0) :: (.bool false) :: (.bool false) :: (.int .i64 n) :: (.agg #[.int .i64 n, .slice none 0 0]) :: (.agg #[.int .i64 n, .slice none 0 0, .bool false]) :: (.int .i64 m) :: (.agg #[.int .i64 m, .slice none 0 0]) :: (.agg #[.int .i64 m, .slice none 0 0, .bool false]) :: (.int .i64 k) :: (.slice Al l.length cl) :: (.int .i64 (l.length : Int)) :: (.bool true) :: ((J44 95)) :: ((J44 96)) :: ((u48 97)) :: ((u48 98)) :: ((u48 99)) :: ((u48 100)) :: ((u48 101)) :: ((u48 102)) :: ((u48 103)) :: ((u48 104)) :: ((u48 105)) :: ((u48 106)) :: ((u48 107)) :: ((J44 108)) :: ((J44 109)) :: ((J44 110)) :: ((J44 111)) :: ((J44 112)) :: ((J44 113)) :: ((J44 114)) :: ((J44 115)) :: ((J44 116)) :: ((J44 117)) :: ((J44 118)) :: ((J44 119)) :: ((J44 120)) :: ((J44 121)) :: ((J44 122)) :: ((J44 123)) :: ((J44 124)) :: ((J44 125)) :: ((J44 126)) :: ((J44 127)) :: ((J44 128)) :: ((J44 129)) :: ((J44 130)) :: ((J44 131)) :: ((J44 132)) :: ((J44 133)) :: ((J44 134)) :: ((J44 135)) :: ((J44 136)) :: undef :: []) ∧ St W (owns []) w' [blk ga [.int .i64 n, .slice B1 ((zL n m (gx l k).1 (gx l k).2.1 (gx l k).2.2 L M).length) d1, .bool (zb1 n m (gx l k).1 x.b y.b (zL n m (gx l k).1 (gx l k).2.1 (gx l k).2.2 L M))] 32, blk gb [.int .i64 m, .slice B2 ((zM n m (gx l k).1 (gx l k).2.1 (gx l k).2.2 L M).length) d2, .bool (zb2 n m (gx l k).1 x.b y.b (zM n m (gx l k).1 (gx l k).2.1 (gx l k).2.2 L M))] 32, row B1 ((zL n m (gx l k).1 (gx l k).2.1 (gx l k).2.2 L M).length) d1 (ci .i64 (zL n m (gx l k).1 (gx l k).2.1 (gx l k).2.2 L M)) 3 1, row B2 ((zM n m (gx l k).1 (gx l k).2.1 (gx l k).2.2 L M).length) d2 (ci .i64 (zM n m (gx l k).1 (gx l k).2.1 (gx l k).2.2 L M)) 3 1, blk g38 [.int .i64 n, .slice A1 L.length c1, .bool x.b] 32, blk g40 [.int .i64 m, .slice A2 M.length c2, .bool y.b] 32, many (mxE 53 74 21 62 63 g28 n L x), many (mxE 53 74 21 62 63 g33 m M y)]) ?_ ?_
              · skip
                replace HS : St W (owns []) W46 [row A1 L.length c1 (ci .i64 L) 3 1, row A2 M.length c2 (ci .i64 M) 3 1, blk g38 [.int .i64 n, .slice A1 L.length c1, .bool x.b] 32, blk g40 [.int .i64 m, .slice A2 M.length c2, .bool y.b] 32, many (mxE 53 74 21 62 63 g28 n L x), many (mxE 53 74 21 62 63 g33 m M y)] := HS.perm (perm_ [1, 3, 0, 2, 4, 5] (by kernel_rfl) rfl)
                refine t_start HS (fun k_ => (row A1 L.length c1 (ci .i64 L) 3 1).own k_ ∨ (row A2 M.length c2 (ci .i64 M) 3 1).own k_) 16 (by kernel_rfl) rfl ?_
                intro W49 H_ HD_
                clear HD_
                replace HS : St W (owns []) W49 [row A1 L.length c1 (ci .i64 L) 3 1, row A2 M.length c2 (ci .i64 M) 3 1, blk g38 [.int .i64 n, .slice A1 L.length c1, .bool x.b] 32, blk g40 [.int .i64 m, .slice A2 M.length c2, .bool y.b] 32, many (mxE 53 74 21 62 63 g28 n L x), many (mxE 53 74 21 62 63 g33 m M y)] := H_
                clear H_
                have HV := HS
                have HK := Kpt.refl (fun k_ => (row A1 L.length c1 (ci .i64 L) 3 1).own k_ ∨ (row A2 M.length c2 (ci .i64 M) 3 1).own k_) W49
                refine t_q (n := 15) 0 (.agg #[.int .i64 n, .slice A1 L.length c1, .bool x.b]) rfl (by kernel_rfl) (by kernel_rfl) (fun _ _ _ h => h) (fun w' hk => (R_loadN (p := ⟨g38, 0, none⟩) [.int .i64 n, .slice A1 L.length c1, .bool x.b] (by kernel_rfl) (by kernel_rfl) (by kernel_rfl) (by kernel_rfl) (three_at (hk.cellN (fun h_ => h_.elim (HV.sepB (a := 2) (b := 0) (by decide) rfl rfl) (HV.sepB (a := 2) (b := 1) (by decide) rfl rfl)) (HV.cell (i := 2) (j := 0) rfl rfl)) (hk.cellN (fun h_ => h_.elim (HV.sepB (a := 2) (b := 0) (by decide) rfl rfl) (HV.sepB (a := 2) (b := 1) (by decide) rfl rfl)) (HV.cell (i := 2) (j := 1) rfl rfl)) (hk.cellN (fun h_ => h_.elim (HV.sepB (a := 2) (b := 0) (by decide) rfl rfl) (HV.sepB (a := 2) (b := 1) (by decide) rfl rfl)) (HV.cell (i := 2) (j := 2) rfl rfl))))) HK ?_
                refine t_q (n := 14) 1 (.agg #[.int .i64 m, .slice A2 M.length c2, .bool y.b]) rfl (by kernel_rfl) (by kernel_rfl) (fun _ _ _ h => h) (fun w' hk => (R_loadN (p := ⟨g40, 0, none⟩) [.int .i64 m, .slice A2 M.length c2, .bool y.b] (by kernel_rfl) (by kernel_rfl) (by kernel_rfl) (by kernel_rfl) (three_at (hk.cellN (fun h_ => h_.elim (HV.sepB (a := 3) (b := 0) (by decide) rfl rfl) (HV.sepB (a := 3) (b := 1) (by decide) rfl rfl)) (HV.cell (i := 3) (j := 0) rfl rfl)) (hk.cellN (fun h_ => h_.elim (HV.sepB (a := 3) (b := 0) (by decide) rfl rfl) (HV.sepB (a := 3) (b := 1) (by decide) rfl rfl)) (HV.cell (i := 3) (j := 1) rfl rfl)) (hk.cellN (fun h_ => h_.elim (HV.sepB (a := 3) (b := 0) (by decide) rfl rfl) (HV.sepB (a := 3) (b := 1) (by decide) rfl rfl)) (HV.cell (i := 3) (j := 2) rfl rfl))))) HK ?_
                refine t_q (n := 13) 2 (.slice Al l.length cl) rfl (by kernel_rfl) (by kernel_rfl) (fun _ _ _ h => h) (fun w' hk => (by kernel_rfl)) HK ?_
                refine t_q (n := 12) 3 (.int .i64 k) rfl (by kernel_rfl) (by kernel_rfl) (fun _ _ _ h => h) (fun w' hk => (by kernel_rfl)) HK ?_
                obtain ⟨ad50, rfl⟩ := Rd.isSome_ hra (by rw [cf_len (z := 3) (fun _ => rfl)]; omega)
                refine t_q (n := 11) 4 (.pointer (some (ad50.add (k.toNat * 3)))) rfl (by kernel_rfl) (by kernel_rfl) (fun _ _ _ h => h) (fun w' hk => (R_indexA (k := .i64) (p := ad50) (n := l.length) (c := cl) (i := k) (by kernel_rfl) (by kernel_rfl) Tryd.underlying22 (by kernel_rfl) (by omega) (by omega))) HK ?_
                refine t_q (n := 10) 5 (.agg #[.int .i64 ((gx l k).1), .int .i64 ((gx l k).2.1), .int .i64 ((gx l k).2.2)]) rfl (by kernel_rfl) (by kernel_rfl) (fun _ _ _ h => h) (fun w' hk => (R_loadN (p := ad50.add (k.toNat * 3)) [.int .i64 ((gx l k).1), .int .i64 ((gx l k).2.1), .int .i64 ((gx l k).2.2)] (by kernel_rfl) (by kernel_rfl) (by kernel_rfl) (by kernel_rfl) (fun j_ v_ hv_ => (hk.cellN (fun h_ => h_.elim (HV.oldSep (i := 0) rfl ((Rd.elem (f := actM) (fun _ => rfl) hra (gx_eq (by omega) (by omega))) j_ v_ hv_)) (HV.oldSep (i := 1) rfl ((Rd.elem (f := actM) (fun _ => rfl) hra (gx_eq (by omega) (by omega))) j_ v_ hv_))) (HV.old0 ((Rd.elem (f := actM) (fun _ => rfl) hra (gx_eq (by omega) (by omega))) j_ v_ hv_)))))) HK ?_
                refine t_pick3 (n := 9) 6 11 12 (by kernel_rfl) ?_ ?_ ?_
                · skip
                  refine t_c2 (n := 9) 6 (f := 7) (args := #[.agg #[.int .i64 n, .slice A1 L.length c1, .bool x.b], .agg #[.int .i64 m, .slice A2 M.length c2, .bool y.b], .agg #[.int .i64 ((gx l k).1), .int .i64 ((gx l k).2.1), .int .i64 ((gx l k).2.2)]]) rfl (by kernel_rfl) (R_call #[.agg #[.int .i64 n, .slice A1 L.length c1, .bool x.b], .agg #[.int .i64 m, .slice A2 M.length c2, .bool y.b], .agg #[.int .i64 ((gx l k).1), .int .i64 ((gx l k).2.1), .int .i64 ((gx l k).2.2)]] Tryd.func7 (by kernel_rfl) (by kernel_rfl) (by kernel_rfl)) ?_
                  refine (r5do A1 c1 L n x.b A2 c2 M m y.b (gx l k).1 (gx l k).2.1 (gx l k).2.2 _ _ (St.focus (F := [row A1 L.length c1 (ci .i64 L) 3 1, row A2 M.length c2 (ci .i64 M) 3 1]) HS) hok.srt hok.lim hok2.srt hok2.lim (b_or hok) (b_or hok2) (by omega) (by omega) (by omega) (by omega)).mono ?_
                  rintro e W55 ⟨A51, c52, A53, c54, rfl, H_⟩
                  have hkf_ : ∀ k_, owns [row A1 L.length c1 (ci .i64 L) 3 1, row A2 M.length c2 (ci .i64 M) 3 1] k_ → (row A1 L.length c1 (ci .i64 L) 3 1).own k_ ∨ (row A2 M.length c2 (ci .i64 M) 3 1).own k_ := by
                    intro k_ h_; obtain ⟨e_, he_, ho_⟩ := h_; simp only [List.mem_cons, List.not_mem_nil, or_false] at he_; rcases he_ with rfl | rfl <;> first | exact (.inl ho_) | exact (.inr ho_)
                  refine ⟨_, rfl, HK.trans H_.kept (fun _ h_ => .inl (hkf_ _ h_)), ?_⟩
                  replace HK := HK.trans H_.kept (fun _ h_ => .inl (hkf_ _ h_))
                  replace HS : St W (owns []) W55 [row A51 ((zL n m (gx l k).1 (gx l k).2.1 (gx l k).2.2 L M).length) c52 (ci .i64 (zL n m (gx l k).1 (gx l k).2.1 (gx l k).2.2 L M)) 3 1, row A53 ((zM n m (gx l k).1 (gx l k).2.1 (gx l k).2.2 L M).length) c54 (ci .i64 (zM n m (gx l k).1 (gx l k).2.1 (gx l k).2.2 L M)) 3 1, blk g38 [.int .i64 n, .slice A1 L.length c1, .bool x.b] 32, blk g40 [.int .i64 m, .slice A2 M.length c2, .bool y.b] 32, many (mxE 53 74 21 62 63 g28 n L x), many (mxE 53 74 21 62 63 g33 m M y)] := HS.join (F := [row A1 L.length c1 (ci .i64 L) 3 1, row A2 M.length c2 (ci .i64 M) 3 1]) (G := [row A51 ((zL n m (gx l k).1 (gx l k).2.1 (gx l k).2.2 L M).length) c52 (ci .i64 (zL n m (gx l k).1 (gx l k).2.1 (gx l k).2.2 L M)) 3 1, row A53 ((zM n m (gx l k).1 (gx l k).2.1 (gx l k).2.2 L M).length) c54 (ci .i64 (zM n m (gx l k).1 (gx l k).2.1 (gx l k).2.2 L M)) 3 1]) H_
                  clear H_
                  refine t_q (n := 8) 7 (.tuple #[.agg #[.int .i64 n, .slice A51 ((zL n m (gx l k).1 (gx l k).2.1 (gx l k).2.2 L M).length) c52, .bool (zb1 n m (gx l k).1 x.b y.b (zL n m (gx l k).1 (gx l k).2.1 (gx l k).2.2 L M))], .agg #[.int .i64 m, .slice A53 ((zM n m (gx l k).1 (gx l k).2.1 (gx l k).2.2 L M).length) c54, .bool (zb2 n m (gx l k).1 x.b y.b (zM n m (gx l k).1 (gx l k).2.1 (gx l k).2.2 L M))], .bool (zB n m (gx l k).1 (gx l k).2.1 L M)]) rfl (by kernel_rfl) (by kernel_rfl) (fun _ _ _ h => h) (fun w' hk => (by kernel_rfl)) HK ?_
                  refine t_q (n := 7) 8 (.agg #[.int .i64 n, .slice A51 ((zL n m (gx l k).1 (gx l k).2.1 (gx l k).2.2 L M).length) c52, .bool (zb1 n m (gx l k).1 x.b y.b (zL n m (gx l k).1 (gx l k).2.1 (gx l k).2.2 L M))]) rfl (by kernel_rfl) (by kernel_rfl) (fun _ _ _ h => h) (fun w' hk => (by kernel_rfl)) HK ?_
                  refine t_q (n := 6) 9 (.agg #[.int .i64 m, .slice A53 ((zM n m (gx l k).1 (gx l k).2.1 (gx l k).2.2 L M).length) c54, .bool (zb2 n m (gx l k).1 x.b y.b (zM n m (gx l k).1 (gx l k).2.1 (gx l k).2.2 L M))]) rfl (by kernel_rfl) (by kernel_rfl) (fun _ _ _ h => h) (fun w' hk => (by kernel_rfl)) HK ?_
                  refine t_q (n := 5) 10 (.bool (zB n m (gx l k).1 (gx l k).2.1 L M)) rfl (by kernel_rfl) (by kernel_rfl) (fun _ _ _ h => h) (fun w' hk => (by kernel_rfl)) HK ?_
                  refine t_pick2 (n := 4) 11 12 (by kernel_rfl) ?_ ?_
                  · skip
                    obtain ⟨g56, W57, hg_, hw_, H_, hk_⟩ := ex_blk HS [.int .i64 0, .slice none 0 0, .bool false] 32
                    have hv_g56 := Nat.le_trans HK.size (Nat.le_of_eq (Eq.symm hg_))
                    refine t_e2 (n := 4) 11 (.pointer (some ⟨g56, 0, none⟩)) rfl (by kernel_rfl) (by subst hg_; subst hw_; kernel_rfl) (HK.tr hk_) ?_
                    replace HK := HK.tr hk_
                    clear hk_
                    clear hg_ hw_
                    replace HS : St W (owns []) W57 [blk g56 [.int .i64 0, .slice none 0 0, .bool false] 32, row A51 ((zL n m (gx l k).1 (gx l k).2.1 (gx l k).2.2 L M).length) c52 (ci .i64 (zL n m (gx l k).1 (gx l k).2.1 (gx l k).2.2 L M)) 3 1, row A53 ((zM n m (gx l k).1 (gx l k).2.1 (gx l k).2.2 L M).length) c54 (ci .i64 (zM n m (gx l k).1 (gx l k).2.1 (gx l k).2.2 L M)) 3 1, blk g38 [.int .i64 n, .slice A1 L.length c1, .bool x.b] 32, blk g40 [.int .i64 m, .slice A2 M.length c2, .bool y.b] 32, many (mxE 53 74 21 62 63 g28 n L x), many (mxE 53 74 21 62 63 g33 m M y)] := H_
                    clear H_
                    obtain ⟨g58, W59, hg_, hw_, H_, hk_⟩ := ex_blk HS [.int .i64 0, .slice none 0 0, .bool false] 32
                    have hv_g58 := Nat.le_trans HK.size (Nat.le_of_eq (Eq.symm hg_))
                    refine t_e (n := 3) 12 (.pointer (some ⟨g58, 0, none⟩)) rfl (by kernel_rfl) (by kernel_rfl) (by subst hg_; subst hw_; kernel_rfl) (HK.tr hk_) ?_
                    replace HK := HK.tr hk_
                    clear hk_
                    clear hg_ hw_
                    replace HS : St W (owns []) W59 [blk g58 [.int .i64 0, .slice none 0 0, .bool false] 32, blk g56 [.int .i64 0, .slice none 0 0, .bool false] 32, row A51 ((zL n m (gx l k).1 (gx l k).2.1 (gx l k).2.2 L M).length) c52 (ci .i64 (zL n m (gx l k).1 (gx l k).2.1 (gx l k).2.2 L M)) 3 1, row A53 ((zM n m (gx l k).1 (gx l k).2.1 (gx l k).2.2 L M).length) c54 (ci .i64 (zM n m (gx l k).1 (gx l k).2.1 (gx l k).2.2 L M)) 3 1, blk g38 [.int .i64 n, .slice A1 L.length c1, .bool x.b] 32, blk g40 [.int .i64 m, .slice A2 M.length c2, .bool y.b] 32, many (mxE 53 74 21 62 63 g28 n L x), many (mxE 53 74 21 62 63 g33 m M y)] := H_
                    clear H_
                    obtain ⟨W60, hrun_, H_, hk_⟩ := ex_ks (P := Tryd.prog) (ty := 0) (ps := "law.go:64") (af := #[{ on := 11, ground := Go.Ground.data }, { on := 8, ground := Go.Ground.data }, { on := 6, ground := Go.Ground.chain }, { on := 0, ground := Go.Ground.phase }, { on := 1, ground := Go.Ground.phase }, { on := 2, ground := Go.Ground.phase }, { on := 3, ground := Go.Ground.phase }, { on := 4, ground := Go.Ground.phase }, { on := 5, ground := Go.Ground.phase }, { on := 6, ground := Go.Ground.phase }, { on := 7, ground := Go.Ground.phase }, { on := 8, ground := Go.Ground.phase }, { on := 9, ground := (Go.Ground.textOnly Go.Departure.lateStores) }, { on := 10, ground := (Go.Ground.textOnly Go.Departure.lateStores) }, { on := 11, ground := Go.Ground.phase }, { on := 12, ground := Go.Ground.phase }]) (gd := none) (t := 32) (x := (Go.Operand.tmp 16)) (y := (Go.Operand.tmp 105)) (v := .agg #[.int .i64 n, .slice A51 ((zL n m (gx l k).1 (gx l k).2.1 (gx l k).2.2 L M).length) c52, .bool (zb1 n m (gx l k).1 x.b y.b (zL n m (gx l k).1 (gx l k).2.1 (gx l k).2.2 L M))]) HS 1 rfl (0) [.int .i64 n, .slice A51 ((zL n m (gx l k).1 (gx l k).2.1 (gx l k).2.2 L M).length) c52, .bool (zb1 n m (gx l k).1 x.b y.b (zL n m (gx l k).1 (gx l k).2.1 (gx l k).2.2 L M))] (by kernel_rfl) (by kernel_rfl) (by kernel_rfl) (by kernel_rfl) (one_ (by kernel_rfl)) (Nat.le_of_ble_eq_true rfl)
                    replace HK := HK.trans hk_ (fun _ h_ => .inr (Nat.le_trans hv_g56 (Nat.le_of_eq (Eq.symm h_))))
                    refine t_s (n := 2) 13 rfl (by kernel_rfl) (by kernel_rfl) hrun_ HK ?_
                    clear hk_ hrun_
                    replace HS : St W (owns []) W60 [blk g58 [.int .i64 0, .slice none 0 0, .bool false] 32, blk g56 [.int .i64 n, .slice A51 ((zL n m (gx l k).1 (gx l k).2.1 (gx l k).2.2 L M).length) c52, .bool (zb1 n m (gx l k).1 x.b y.b (zL n m (gx l k).1 (gx l k).2.1 (gx l k).2.2 L M))] 32, row A51 ((zL n m (gx l k).1 (gx l k).2.1 (gx l k).2.2 L M).length) c52 (ci .i64 (zL n m (gx l k).1 (gx l k).2.1 (gx l k).2.2 L M)) 3 1, row A53 ((zM n m (gx l k).1 (gx l k).2.1 (gx l k).2.2 L M).length) c54 (ci .i64 (zM n m (gx l k).1 (gx l k).2.1 (gx l k).2.2 L M)) 3 1, blk g38 [.int .i64 n, .slice A1 L.length c1, .bool x.b] 32, blk g40 [.int .i64 m, .slice A2 M.length c2, .bool y.b] 32, many (mxE 53 74 21 62 63 g28 n L x), many (mxE 53 74 21 62 63 g33 m M y)] := H_
                    clear H_
                    obtain ⟨W61, hrun_, H_, hk_⟩ := ex_ks (P := Tryd.prog) (ty := 0) (ps := "law.go:64") (af := #[{ on := 12, ground := Go.Ground.data }, { on := 9, ground := Go.Ground.data }, { on := 13, ground := Go.Ground.chain }, { on := 0, ground := Go.Ground.phase }, { on := 1, ground := Go.Ground.phase }, { on := 2, ground := Go.Ground.phase }, { on := 3, ground := Go.Ground.phase }, { on := 4, ground := Go.Ground.phase }, { on := 5, ground := Go.Ground.phase }, { on := 6, ground := Go.Ground.phase }, { on := 7, ground := Go.Ground.phase }, { on := 8, ground := Go.Ground.phase }, { on := 9, ground := Go.Ground.phase }, { on := 10, ground := (Go.Ground.textOnly Go.Departure.lateStores) }, { on := 11, ground := Go.Ground.phase }, { on := 12, ground := Go.Ground.phase }, { on := 13, ground := Go.Ground.phase }]) (gd := none) (t := 32) (x := (Go.Operand.tmp 17)) (y := (Go.Operand.tmp 106)) (v := .agg #[.int .i64 m, .slice A53 ((zM n m (gx l k).1 (gx l k).2.1 (gx l k).2.2 L M).length) c54, .bool (zb2 n m (gx l k).1 x.b y.b (zM n m (gx l k).1 (gx l k).2.1 (gx l k).2.2 L M))]) HS 0 rfl (0) [.int .i64 m, .slice A53 ((zM n m (gx l k).1 (gx l k).2.1 (gx l k).2.2 L M).length) c54, .bool (zb2 n m (gx l k).1 x.b y.b (zM n m (gx l k).1 (gx l k).2.1 (gx l k).2.2 L M))] (by kernel_rfl) (by kernel_rfl) (by kernel_rfl) (by kernel_rfl) (one_ (by kernel_rfl)) (Nat.le_of_ble_eq_true rfl)
                    replace HK := HK.trans hk_ (fun _ h_ => .inr (Nat.le_trans hv_g58 (Nat.le_of_eq (Eq.symm h_))))
                    refine t_s (n := 1) 14 rfl (by kernel_rfl) (by kernel_rfl) hrun_ HK ?_
                    clear hk_ hrun_
                    replace HS : St W (owns []) W61 [blk g58 [.int .i64 m, .slice A53 ((zM n m (gx l k).1 (gx l k).2.1 (gx l k).2.2 L M).length) c54, .bool (zb2 n m (gx l k).1 x.b y.b (zM n m (gx l k).1 (gx l k).2.1 (gx l k).2.2 L M))] 32, blk g56 [.int .i64 n, .slice A51 ((zL n m (gx l k).1 (gx l k).2.1 (gx l k).2.2 L M).length) c52, .bool (zb1 n m (gx l k).1 x.b y.b (zL n m (gx l k).1 (gx l k).2.1 (gx l k).2.2 L M))] 32, row A51 ((zL n m (gx l k).1 (gx l k).2.1 (gx l k).2.2 L M).length) c52 (ci .i64 (zL n m (gx l k).1 (gx l k).2.1 (gx l k).2.2 L M)) 3 1, row A53 ((zM n m (gx l k).1 (gx l k).2.1 (gx l k).2.2 L M).length) c54 (ci .i64 (zM n m (gx l k).1 (gx l k).2.1 (gx l k).2.2 L M)) 3 1, blk g38 [.int .i64 n, .slice A1 L.length c1, .bool x.b] 32, blk g40 [.int .i64 m, .slice A2 M.length c2, .bool y.b] 32, many (mxE 53 74 21 62 63 g28 n L x), many (mxE 53 74 21 62 63 g33 m M y)] := H_
                    clear H_
                    refine t_q (n := 0) 15 (.bool (zB n m (gx l k).1 (gx l k).2.1 L M)) rfl (by kernel_rfl) (by kernel_rfl) (fun _ _ _ h => h) (fun w' hk => (by kernel_rfl)) HK ?_
                    refine t_done (by kernel_rfl) ?_
                    clear HV HK
                    replace HS : St W (owns []) W61 [blk g56 [.int .i64 n, .slice A51 ((zL n m (gx l k).1 (gx l k).2.1 (gx l k).2.2 L M).length) c52, .bool (zb1 n m (gx l k).1 x.b y.b (zL n m (gx l k).1 (gx l k).2.1 (gx l k).2.2 L M))] 32, blk g58 [.int .i64 m, .slice A53 ((zM n m (gx l k).1 (gx l k).2.1 (gx l k).2.2 L M).length) c54, .bool (zb2 n m (gx l k).1 x.b y.b (zM n m (gx l k).1 (gx l k).2.1 (gx l k).2.2 L M))] 32, row A51 ((zL n m (gx l k).1 (gx l k).2.1 (gx l k).2.2 L M).length) c52 (ci .i64 (zL n m (gx l k).1 (gx l k).2.1 (gx l k).2.2 L M)) 3 1, row A53 ((zM n m (gx l k).1 (gx l k).2.1 (gx l k).2.2 L M).length) c54 (ci .i64 (zM n m (gx l k).1 (gx l k).2.1 (gx l k).2.2 L M)) 3 1, blk g38 [.int .i64 n, .slice A1 L.length c1, .bool x.b] 32, blk g40 [.int .i64 m, .slice A2 M.length c2, .bool y.b] 32, many (mxE 53 74 21 62 63 g28 n L x), many (mxE 53 74 21 62 63 g33 m M y)] := St.tail (F := []) (HS.perm (perm_ [1, 0, 2, 3, 4, 5, 6, 7] (by kernel_rfl) rfl))
                    refine x_then ?_
                    exact ⟨(fun k_ : Nat => List.getD ((.int .i64 n) :: (.int .i64 m) :: (.slice (some ad50) l.length cl) :: (.int .i64 i) :: undef :: undef :: undef :: undef :: ((J44 8)) :: (.pointer (some ⟨g28, 0, none⟩)) :: (.int .i64 0) :: (.pointer (some ⟨g33, 0, none⟩)) :: (.int .i64 0) :: (.pointer (some ⟨g38, 0, none⟩)) :: (.pointer (some ⟨g40, 0, none⟩)) :: (.int .i64 k) :: (.pointer (some ⟨g56, 0, none⟩)) :: (.pointer (some ⟨g58, 0, none⟩)) :: (.bool (zB n m (gx l k).1 (gx l k).2.1 L M)) :: (.slice (some ad50) l.length cl) :: (.int .i64 (l.length : Int)) :: (.bool false) :: (.bool false) :: (.int .i64 n) :: (.bool false) :: (.bool false) :: undef :: undef :: (.bool false) :: (.bool false) :: (.bool false) :: (.int .i64 m) :: (.bool false) :: (.bool false) :: (.bool false) :: (.int .i64 m) :: (.bool false) :: (.bool false) :: undef :: (.tuple #[.pointer (some ⟨g28, 0, none⟩), .int .i64 0]) :: (.int .i64 n) :: (.tuple #[.pointer (some ⟨g28, 0, none⟩), .int .i64 0]) :: (.pointer (some ⟨g28, 0, none⟩)) :: (.int .i64 0) :: (.tuple #[.pointer (some ⟨g33, 0, none⟩), .int .i64 0]) :: (.int .i64 m) :: (.tuple #[.pointer (some ⟨g33, 0, none⟩), .int .i64 0]) :: (.pointer (some ⟨g33, 0, none⟩)) :: (.int .i64 0) :: (.int .i64 n) :: (.bool false) :: undef :: undef :: undef :: undef :: undef :: undef :: undef :: undef :: undef :: (.int .i64 n) :: (.bool false) :: undef :: undef :: undef :: undef :: undef :: undef :: undef :: undef :: undef :: (.pointer (some ⟨g28, 0, none⟩)) :: (.bool false) :: (.bool false) :: (.pointer (some ⟨g33, 0, none⟩)) :: (.bool false) :: (.bool false) :: (.bool false) :: (.int .i64 0) :: (.bool false) :: (.bool false) :: (.bool false) :: (.int .i64 0) :: (.bool false) :: (.bool false) :: (.int .i64 n) :: (.agg #[.int .i64 n, .slice none 0 0]) :: (.agg #[.int .i64 n, .slice none 0 0, .bool false]) :: (.int .i64 m) :: (.agg #[.int .i64 m, .slice none 0 0]) :: (.agg #[.int .i64 m, .slice none 0 0, .bool false]) :: (.int .i64 k) :: (.slice (some ad50) l.length cl) :: (.int .i64 (l.length : Int)) :: (.bool true) :: ((J44 95)) :: ((J44 96)) :: (.tuple #[.agg #[.int .i64 n, .slice A51 ((zL n m (gx l k).1 (gx l k).2.1 (gx l k).2.2 L M).length) c52, .bool (zb1 n m (gx l k).1 x.b y.b (zL n m (gx l k).1 (gx l k).2.1 (gx l k).2.2 L M))], .agg #[.int .i64 m, .slice A53 ((zM n m (gx l k).1 (gx l k).2.1 (gx l k).2.2 L M).length) c54, .bool (zb2 n m (gx l k).1 x.b y.b (zM n m (gx l k).1 (gx l k).2.1 (gx l k).2.2 L M))], .bool (zB n m (gx l k).1 (gx l k).2.1 L M)]) :: (.agg #[.int .i64 n, .slice A1 L.length c1, .bool x.b]) :: (.agg #[.int .i64 m, .slice A2 M.length c2, .bool y.b]) :: (.slice (some ad50) l.length cl) :: (.int .i64 k) :: (.pointer (some (ad50.add (k.toNat * 3)))) :: (.agg #[.int .i64 ((gx l k).1), .int .i64 ((gx l k).2.1), .int .i64 ((gx l k).2.2)]) :: (.tuple #[.agg #[.int .i64 n, .slice A51 ((zL n m (gx l k).1 (gx l k).2.1 (gx l k).2.2 L M).length) c52, .bool (zb1 n m (gx l k).1 x.b y.b (zL n m (gx l k).1 (gx l k).2.1 (gx l k).2.2 L M))], .agg #[.int .i64 m, .slice A53 ((zM n m (gx l k).1 (gx l k).2.1 (gx l k).2.2 L M).length) c54, .bool (zb2 n m (gx l k).1 x.b y.b (zM n m (gx l k).1 (gx l k).2.1 (gx l k).2.2 L M))], .bool (zB n m (gx l k).1 (gx l k).2.1 L M)]) :: (.agg #[.int .i64 n, .slice A51 ((zL n m (gx l k).1 (gx l k).2.1 (gx l k).2.2 L M).length) c52, .bool (zb1 n m (gx l k).1 x.b y.b (zL n m (gx l k).1 (gx l k).2.1 (gx l k).2.2 L M))]) :: (.agg #[.int .i64 m, .slice A53 ((zM n m (gx l k).1 (gx l k).2.1 (gx l k).2.2 L M).length) c54, .bool (zb2 n m (gx l k).1 x.b y.b (zM n m (gx l k).1 (gx l k).2.1 (gx l k).2.2 L M))]) :: (.bool (zB n m (gx l k).1 (gx l k).2.1 L M)) :: ((J44 108)) :: ((J44 109)) :: ((J44 110)) :: ((J44 111)) :: ((J44 112)) :: ((J44 113)) :: ((J44 114)) :: ((J44 115)) :: ((J44 116)) :: ((J44 117)) :: ((J44 118)) :: ((J44 119)) :: ((J44 120)) :: ((J44 121)) :: ((J44 122)) :: ((J44 123)) :: ((J44 124)) :: ((J44 125)) :: ((J44 126)) :: ((J44 127)) :: ((J44 128)) :: ((J44 129)) :: ((J44 130)) :: ((J44 131)) :: ((J44 132)) :: ((J44 133)) :: ((J44 134)) :: ((J44 135)) :: ((J44 136)) :: undef :: []) k_ undef), g56, g58, A51, c52, A53, c54, congrArg Fr (by kernel_rfl), HS⟩
                  · skip
                    obtain ⟨g62, W63, hg_, hw_, H_, hk_⟩ := ex_blk HS [.int .i64 0, .slice none 0 0, .bool false] 32
                    have hv_g62 := Nat.le_trans HK.size (Nat.le_of_eq (Eq.symm hg_))
                    refine t_e2 (n := 4) 12 (.pointer (some ⟨g62, 0, none⟩)) rfl (by kernel_rfl) (by subst hg_; subst hw_; kernel_rfl) (HK.tr hk_) ?_
                    replace HK := HK.tr hk_
                    clear hk_
                    clear hg_ hw_
                    replace HS : St W (owns []) W63 [blk g62 [.int .i64 0, .slice none 0 0, .bool false] 32, row A51 ((zL n m (gx l k).1 (gx l k).2.1 (gx l k).2.2 L M).length) c52 (ci .i64 (zL n m (gx l k).1 (gx l k).2.1 (gx l k).2.2 L M)) 3 1, row A53 ((zM n m (gx l k).1 (gx l k).2.1 (gx l k).2.2 L M).length) c54 (ci .i64 (zM n m (gx l k).1 (gx l k).2.1 (gx l k).2.2 L M)) 3 1, blk g38 [.int .i64 n, .slice A1 L.length c1, .bool x.b] 32, blk g40 [.int .i64 m, .slice A2 M.length c2, .bool y.b] 32, many (mxE 53 74 21 62 63 g28 n L x), many (mxE 53 74 21 62 63 g33 m M y)] := H_
                    clear H_
                    obtain ⟨g64, W65, hg_, hw_, H_, hk_⟩ := ex_blk HS [.int .i64 0, .slice none 0 0, .bool false] 32
                    have hv_g64 := Nat.le_trans HK.size (Nat.le_of_eq (Eq.symm hg_))
                    refine t_e (n := 3) 11 (.pointer (some ⟨g64, 0, none⟩)) rfl (by kernel_rfl) (by kernel_rfl) (by subst hg_; subst hw_; kernel_rfl) (HK.tr hk_) ?_
                    replace HK := HK.tr hk_
                    clear hk_
                    clear hg_ hw_
                    replace HS : St W (owns []) W65 [blk g64 [.int .i64 0, .slice none 0 0, .bool false] 32, blk g62 [.int .i64 0, .slice none 0 0, .bool false] 32, row A51 ((zL n m (gx l k).1 (gx l k).2.1 (gx l k).2.2 L M).length) c52 (ci .i64 (zL n m (gx l k).1 (gx l k).2.1 (gx l k).2.2 L M)) 3 1, row A53 ((zM n m (gx l k).1 (gx l k).2.1 (gx l k).2.2 L M).length) c54 (ci .i64 (zM n m (gx l k).1 (gx l k).2.1 (gx l k).2.2 L M)) 3 1, blk g38 [.int .i64 n, .slice A1 L.length c1, .bool x.b] 32, blk g40 [.int .i64 m, .slice A2 M.length c2, .bool y.b] 32, many (mxE 53 74 21 62 63 g28 n L x), many (mxE 53 74 21 62 63 g33 m M y)] := H_
                    clear H_
                    obtain ⟨W66, hrun_, H_, hk_⟩ := ex_ks (P := Tryd.prog) (ty := 0) (ps := "law.go:64") (af := #[{ on := 11, ground := Go.Ground.data }, { on := 8, ground := Go.Ground.data }, { on := 6, ground := Go.Ground.chain }, { on := 0, ground := Go.Ground.phase }, { on := 1, ground := Go.Ground.phase }, { on := 2, ground := Go.Ground.phase }, { on := 3, ground := Go.Ground.phase }, { on := 4, ground := Go.Ground.phase }, { on := 5, ground := Go.Ground.phase }, { on := 6, ground := Go.Ground.phase }, { on := 7, ground := Go.Ground.phase }, { on := 8, ground := Go.Ground.phase }, { on := 9, ground := (Go.Ground.textOnly Go.Departure.lateStores) }, { on := 10, ground := (Go.Ground.textOnly Go.Departure.lateStores) }, { on := 11, ground := Go.Ground.phase }, { on := 12, ground := Go.Ground.phase }]) (gd := none) (t := 32) (x := (Go.Operand.tmp 16)) (y := (Go.Operand.tmp 105)) (v := .agg #[.int .i64 n, .slice A51 ((zL n m (gx l k).1 (gx l k).2.1 (gx l k).2.2 L M).length) c52, .bool (zb1 n m (gx l k).1 x.b y.b (zL n m (gx l k).1 (gx l k).2.1 (gx l k).2.2 L M))]) HS 0 rfl (0) [.int .i64 n, .slice A51 ((zL n m (gx l k).1 (gx l k).2.1 (gx l k).2.2 L M).length) c52, .bool (zb1 n m (gx l k).1 x.b y.b (zL n m (gx l k).1 (gx l k).2.1 (gx l k).2.2 L M))] (by kernel_rfl) (by kernel_rfl) (by kernel_rfl) (by kernel_rfl) (one_ (by kernel_rfl)) (Nat.le_of_ble_eq_true rfl)
                    replace HK := HK.trans hk_ (fun _ h_ => .inr (Nat.le_trans hv_g64 (Nat.le_of_eq (Eq.symm h_))))
                    refine t_s (n := 2) 13 rfl (by kernel_rfl) (by kernel_rfl) hrun_ HK ?_
                    clear hk_ hrun_
                    replace HS : St W (owns []) W66 [blk g64 [.int .i64 n, .slice A51 ((zL n m (gx l k).1 (gx l k).2.1 (gx l k).2.2 L M).length) c52, .bool (zb1 n m (gx l k).1 x.b y.b (zL n m (gx l k).1 (gx l k).2.1 (gx l k).2.2 L M))] 32, blk g62 [.int .i64 0, .slice none 0 0, .bool false] 32, row A51 ((zL n m (gx l k).1 (gx l k).2.1 (gx l k).2.2 L M).length) c52 (ci .i64 (zL n m (gx l k).1 (gx l k).2.1 (gx l k).2.2 L M)) 3 1, row A53 ((zM n m (gx l k).1 (gx l k).2.1 (gx l k).2.2 L M).length) c54 (ci .i64 (zM n m (gx l k).1 (gx l k).2.1 (gx l k).2.2 L M)) 3 1, blk g38 [.int .i64 n, .slice A1 L.length c1, .bool x.b] 32, blk g40 [.int .i64 m, .slice A2 M.length c2, .bool y.b] 32, many (mxE 53 74 21 62 63 g28 n L x), many (mxE 53 74 21 62 63 g33 m M y)] := H_
                    clear H_
                    obtain ⟨W67, hrun_, H_, hk_⟩ := ex_ks (P := Tryd.prog) (ty := 0) (ps := "law.go:64") (af := #[{ on := 12, ground := Go.Ground.data }, { on := 9, ground := Go.Ground.data }, { on := 13, ground := Go.Ground.chain }, { on := 0, ground := Go.Ground.phase }, { on := 1, ground := Go.Ground.phase }, { on := 2, ground := Go.Ground.phase }, { on := 3, ground := Go.Ground.phase }, { on := 4, ground := Go.Ground.phase }, { on := 5, ground := Go.Ground.phase }, { on := 6, ground := Go.Ground.phase }, { on := 7, ground := Go.Ground.phase }, { on := 8, ground := Go.Ground.phase }, { on := 9, ground := Go.Ground.phase }, { on := 10, ground := (Go.Ground.textOnly Go.Departure.lateStores) }, { on := 11, ground := Go.Ground.phase }, { on := 12, ground := Go.Ground.phase }, { on := 13, ground := Go.Ground.phase }]) (gd := none) (t := 32) (x := (Go.Operand.tmp 17)) (y := (Go.Operand.tmp 106)) (v := .agg #[.int .i64 m, .slice A53 ((zM n m (gx l k).1 (gx l k).2.1 (gx l k).2.2 L M).length) c54, .bool (zb2 n m (gx l k).1 x.b y.b (zM n m (gx l k).1 (gx l k).2.1 (gx l k).2.2 L M))]) HS 1 rfl (0) [.int .i64 m, .slice A53 ((zM n m (gx l k).1 (gx l k).2.1 (gx l k).2.2 L M).length) c54, .bool (zb2 n m (gx l k).1 x.b y.b (zM n m (gx l k).1 (gx l k).2.1 (gx l k).2.2 L M))] (by kernel_rfl) (by kernel_rfl) (by kernel_rfl) (by kernel_rfl) (one_ (by kernel_rfl)) (Nat.le_of_ble_eq_true rfl)
                    replace HK := HK.trans hk_ (fun _ h_ => .inr (Nat.le_trans hv_g62 (Nat.le_of_eq (Eq.symm h_))))
                    refine t_s (n := 1) 14 rfl (by kernel_rfl) (by kernel_rfl) hrun_ HK ?_
                    clear hk_ hrun_
                    replace HS : St W (owns []) W67 [blk g64 [.int .i64 n, .slice A51 ((zL n m (gx l k).1 (gx l k).2.1 (gx l k).2.2 L M).length) c52, .bool (zb1 n m (gx l k).1 x.b y.b (zL n m (gx l k).1 (gx l k).2.1 (gx l k).2.2 L M))] 32, blk g62 [.int .i64 m, .slice A53 ((zM n m (gx l k).1 (gx l k).2.1 (gx l k).2.2 L M).length) c54, .bool (zb2 n m (gx l k).1 x.b y.b (zM n m (gx l k).1 (gx l k).2.1 (gx l k).2.2 L M))] 32, row A51 ((zL n m (gx l k).1 (gx l k).2.1 (gx l k).2.2 L M).length) c52 (ci .i64 (zL n m (gx l k).1 (gx l k).2.1 (gx l k).2.2 L M)) 3 1, row A53 ((zM n m (gx l k).1 (gx l k).2.1 (gx l k).2.2 L M).length) c54 (ci .i64 (zM n m (gx l k).1 (gx l k).2.1 (gx l k).2.2 L M)) 3 1, blk g38 [.int .i64 n, .slice A1 L.length c1, .bool x.b] 32, blk g40 [.int .i64 m, .slice A2 M.length c2, .bool y.b] 32, many (mxE 53 74 21 62 63 g28 n L x), many (mxE 53 74 21 62 63 g33 m M y)] := H_
                    clear H_
                    refine t_q (n := 0) 15 (.bool (zB n m (gx l k).1 (gx l k).2.1 L M)) rfl (by kernel_rfl) (by kernel_rfl) (fun _ _ _ h => h) (fun w' hk => (by kernel_rfl)) HK ?_
                    refine t_done (by kernel_rfl) ?_
                    clear HV HK
                    refine x_then ?_
                    exact ⟨(fun k_ : Nat => List.getD ((.int .i64 n) :: (.int .i64 m) :: (.slice (some ad50) l.length cl) :: (.int .i64 i) :: undef :: undef :: undef :: undef :: ((J44 8)) :: (.pointer (some ⟨g28, 0, none⟩)) :: (.int .i64 0) :: (.pointer (some ⟨g33, 0, none⟩)) :: (.int .i64 0) :: (.pointer (some ⟨g38, 0, none⟩)) :: (.pointer (some ⟨g40, 0, none⟩)) :: (.int .i64 k) :: (.pointer (some ⟨g64, 0, none⟩)) :: (.pointer (some ⟨g62, 0, none⟩)) :: (.bool (zB n m (gx l k).1 (gx l k).2.1 L M)) :: (.slice (some ad50) l.length cl) :: (.int .i64 (l.length : Int)) :: (.bool false) :: (.bool false) :: (.int .i64 n) :: (.bool false) :: (.bool false) :: undef :: undef :: (.bool false) :: (.bool false) :: (.bool false) :: (.int .i64 m) :: (.bool false) :: (.bool false) :: (.bool false) :: (.int .i64 m) :: (.bool false) :: (.bool false) :: undef :: (.tuple #[.pointer (some ⟨g28, 0, none⟩), .int .i64 0]) :: (.int .i64 n) :: (.tuple #[.pointer (some ⟨g28, 0, none⟩), .int .i64 0]) :: (.pointer (some ⟨g28, 0, none⟩)) :: (.int .i64 0) :: (.tuple #[.pointer (some ⟨g33, 0, none⟩), .int .i64 0]) :: (.int .i64 m) :: (.tuple #[.pointer (some ⟨g33, 0, none⟩), .int .i64 0]) :: (.pointer (some ⟨g33, 0, none⟩)) :: (.int .i64 0) :: (.int .i64 n) :: (.bool false) :: undef :: undef :: undef :: undef :: undef :: undef :: undef :: undef :: undef :: (.int .i64 n) :: (.bool false) :: undef :: undef :: undef :: undef :: undef :: undef :: undef :: undef :: undef :: (.pointer (some ⟨g28, 0, none⟩)) :: (.bool false) :: (.bool false) :: (.pointer (some ⟨g33, 0, none⟩)) :: (.bool false) :: (.bool false) :: (.bool false) :: (.int .i64 0) :: (.bool false) :: (.bool false) :: (.bool false) :: (.int .i64 0) :: (.bool false) :: (.bool false) :: (.int .i64 n) :: (.agg #[.int .i64 n, .slice none 0 0]) :: (.agg #[.int .i64 n, .slice none 0 0, .bool false]) :: (.int .i64 m) :: (.agg #[.int .i64 m, .slice none 0 0]) :: (.agg #[.int .i64 m, .slice none 0 0, .bool false]) :: (.int .i64 k) :: (.slice (some ad50) l.length cl) :: (.int .i64 (l.length : Int)) :: (.bool true) :: ((J44 95)) :: ((J44 96)) :: (.tuple #[.agg #[.int .i64 n, .slice A51 ((zL n m (gx l k).1 (gx l k).2.1 (gx l k).2.2 L M).length) c52, .bool (zb1 n m (gx l k).1 x.b y.b (zL n m (gx l k).1 (gx l k).2.1 (gx l k).2.2 L M))], .agg #[.int .i64 m, .slice A53 ((zM n m (gx l k).1 (gx l k).2.1 (gx l k).2.2 L M).length) c54, .bool (zb2 n m (gx l k).1 x.b y.b (zM n m (gx l k).1 (gx l k).2.1 (gx l k).2.2 L M))], .bool (zB n m (gx l k).1 (gx l k).2.1 L M)]) :: (.agg #[.int .i64 n, .slice A1 L.length c1, .bool x.b]) :: (.agg #[.int .i64 m, .slice A2 M.length c2, .bool y.b]) :: (.slice (some ad50) l.length cl) :: (.int .i64 k) :: (.pointer (some (ad50.add (k.toNat * 3)))) :: (.agg #[.int .i64 ((gx l k).1), .int .i64 ((gx l k).2.1), .int .i64 ((gx l k).2.2)]) :: (.tuple #[.agg #[.int .i64 n, .slice A51 ((zL n m (gx l k).1 (gx l k).2.1 (gx l k).2.2 L M).length) c52, .bool (zb1 n m (gx l k).1 x.b y.b (zL n m (gx l k).1 (gx l k).2.1 (gx l k).2.2 L M))], .agg #[.int .i64 m, .slice A53 ((zM n m (gx l k).1 (gx l k).2.1 (gx l k).2.2 L M).length) c54, .bool (zb2 n m (gx l k).1 x.b y.b (zM n m (gx l k).1 (gx l k).2.1 (gx l k).2.2 L M))], .bool (zB n m (gx l k).1 (gx l k).2.1 L M)]) :: (.agg #[.int .i64 n, .slice A51 ((zL n m (gx l k).1 (gx l k).2.1 (gx l k).2.2 L M).length) c52, .bool (zb1 n m (gx l k).1 x.b y.b (zL n m (gx l k).1 (gx l k).2.1 (gx l k).2.2 L M))]) :: (.agg #[.int .i64 m, .slice A53 ((zM n m (gx l k).1 (gx l k).2.1 (gx l k).2.2 L M).length) c54, .bool (zb2 n m (gx l k).1 x.b y.b (zM n m (gx l k).1 (gx l k).2.1 (gx l k).2.2 L M))]) :: (.bool (zB n m (gx l k).1 (gx l k).2.1 L M)) :: ((J44 108)) :: ((J44 109)) :: ((J44 110)) :: ((J44 111)) :: ((J44 112)) :: ((J44 113)) :: ((J44 114)) :: ((J44 115)) :: ((J44 116)) :: ((J44 117)) :: ((J44 118)) :: ((J44 119)) :: ((J44 120)) :: ((J44 121)) :: ((J44 122)) :: ((J44 123)) :: ((J44 124)) :: ((J44 125)) :: ((J44 126)) :: ((J44 127)) :: ((J44 128)) :: ((J44 129)) :: ((J44 130)) :: ((J44 131)) :: ((J44 132)) :: ((J44 133)) :: ((J44 134)) :: ((J44 135)) :: ((J44 136)) :: undef :: []) k_ undef), g64, g62, A51, c52, A53, c54, congrArg Fr (by kernel_rfl), HS⟩
                · skip
                  obtain ⟨g68, W69, hg_, hw_, H_, hk_⟩ := ex_blk HS [.int .i64 0, .slice none 0 0, .bool false] 32
                  have hv_g68 := Nat.le_trans HK.size (Nat.le_of_eq (Eq.symm hg_))
                  refine t_e2 (n := 9) 11 (.pointer (some ⟨g68, 0, none⟩)) rfl (by kernel_rfl) (by subst hg_; subst hw_; kernel_rfl) (HK.tr hk_) ?_
                  replace HK := HK.tr hk_
                  clear hk_
                  clear hg_ hw_
                  replace HS : St W (owns []) W69 [blk g68 [.int .i64 0, .slice none 0 0, .bool false] 32, row A1 L.length c1 (ci .i64 L) 3 1, row A2 M.length c2 (ci .i64 M) 3 1, blk g38 [.int .i64 n, .slice A1 L.length c1, .bool x.b] 32, blk g40 [.int .i64 m, .slice A2 M.length c2, .bool y.b] 32, many (mxE 53 74 21 62 63 g28 n L x), many (mxE 53 74 21 62 63 g33 m M y)] := H_
                  clear H_
                  refine t_pick2 (n := 8) 6 12 (by kernel_rfl) ?_ ?_
                  · skip
                    refine t_c2 (n := 8) 6 (f := 7) (args := #[.agg #[.int .i64 n, .slice A1 L.length c1, .bool x.b], .agg #[.int .i64 m, .slice A2 M.length c2, .bool y.b], .agg #[.int .i64 ((gx l k).1), .int .i64 ((gx l k).2.1), .int .i64 ((gx l k).2.2)]]) rfl (by kernel_rfl) (R_call #[.agg #[.int .i64 n, .slice A1 L.length c1, .bool x.b], .agg #[.int .i64 m, .slice A2 M.length c2, .bool y.b], .agg #[.int .i64 ((gx l k).1), .int .i64 ((gx l k).2.1), .int .i64 ((gx l k).2.2)]] Tryd.func7 (by kernel_rfl) (by kernel_rfl) (by kernel_rfl)) ?_
                    replace HS : St W (owns []) W69 [row A1 L.length c1 (ci .i64 L) 3 1, row A2 M.length c2 (ci .i64 M) 3 1, blk g68 [.int .i64 0, .slice none 0 0, .bool false] 32, blk g38 [.int .i64 n, .slice A1 L.length c1, .bool x.b] 32, blk g40 [.int .i64 m, .slice A2 M.length c2, .bool y.b] 32, many (mxE 53 74 21 62 63 g28 n L x), many (mxE 53 74 21 62 63 g33 m M y)] := HS.perm (perm_ [1, 2, 0, 3, 4, 5, 6] (by kernel_rfl) rfl)
                    refine (r5do A1 c1 L n x.b A2 c2 M m y.b (gx l k).1 (gx l k).2.1 (gx l k).2.2 _ _ (St.focus (F := [row A1 L.length c1 (ci .i64 L) 3 1, row A2 M.length c2 (ci .i64 M) 3 1]) HS) hok.srt hok.lim hok2.srt hok2.lim (b_or hok) (b_or hok2) (by omega) (by omega) (by omega) (by omega)).mono ?_
                    rintro e W74 ⟨A70, c71, A72, c73, rfl, H_⟩
                    have hkf_ : ∀ k_, owns [row A1 L.length c1 (ci .i64 L) 3 1, row A2 M.length c2 (ci .i64 M) 3 1] k_ → (row A1 L.length c1 (ci .i64 L) 3 1).own k_ ∨ (row A2 M.length c2 (ci .i64 M) 3 1).own k_ := by
                      intro k_ h_; obtain ⟨e_, he_, ho_⟩ := h_; simp only [List.mem_cons, List.not_mem_nil, or_false] at he_; rcases he_ with rfl | rfl <;> first | exact (.inl ho_) | exact (.inr ho_)
                    refine ⟨_, rfl, HK.trans H_.kept (fun _ h_ => .inl (hkf_ _ h_)), ?_⟩
                    replace HK := HK.trans H_.kept (fun _ h_ => .inl (hkf_ _ h_))
                    replace HS : St W (owns []) W74 [row A70 ((zL n m (gx l k).1 (gx l k).2.1 (gx l k).2.2 L M).length) c71 (ci .i64 (zL n m (gx l k).1 (gx l k).2.1 (gx l k).2.2 L M)) 3 1, row A72 ((zM n m (gx l k).1 (gx l k).2.1 (gx l k).2.2 L M).length) c73 (ci .i64 (zM n m (gx l k).1 (gx l k).2.1 (gx l k).2.2 L M)) 3 1, blk g68 [.int .i64 0, .slice none 0 0, .bool false] 32, blk g38 [.int .i64 n, .slice A1 L.length c1, .bool x.b] 32, blk g40 [.int .i64 m, .slice A2 M.length c2, .bool y.b] 32, many (mxE 53 74 21 62 63 g28 n L x), many (mxE 53 74 21 62 63 g33 m M y)] := HS.join (F := [row A1 L.length c1 (ci .i64 L) 3 1, row A2 M.length c2 (ci .i64 M) 3 1]) (G := [row A70 ((zL n m (gx l k).1 (gx l k).2.1 (gx l k).2.2 L M).length) c71 (ci .i64 (zL n m (gx l k).1 (gx l k).2.1 (gx l k).2.2 L M)) 3 1, row A72 ((zM n m (gx l k).1 (gx l k).2.1 (gx l k).2.2 L M).length) c73 (ci .i64 (zM n m (gx l k).1 (gx l k).2.1 (gx l k).2.2 L M)) 3 1]) H_
                    clear H_
                    refine t_q (n := 7) 7 (.tuple #[.agg #[.int .i64 n, .slice A70 ((zL n m (gx l k).1 (gx l k).2.1 (gx l k).2.2 L M).length) c71, .bool (zb1 n m (gx l k).1 x.b y.b (zL n m (gx l k).1 (gx l k).2.1 (gx l k).2.2 L M))], .agg #[.int .i64 m, .slice A72 ((zM n m (gx l k).1 (gx l k).2.1 (gx l k).2.2 L M).length) c73, .bool (zb2 n m (gx l k).1 x.b y.b (zM n m (gx l k).1 (gx l k).2.1 (gx l k).2.2 L M))], .bool (zB n m (gx l k).1 (gx l k).2.1 L M)]) rfl (by kernel_rfl) (by kernel_rfl) (fun _ _ _ h => h) (fun w' hk => (by kernel_rfl)) HK ?_
                    refine t_q (n := 6) 8 (.agg #[.int .i64 n, .slice A70 ((zL n m (gx l k).1 (gx l k).2.1 (gx l k).2.2 L M).length) c71, .bool (zb1 n m (gx l k).1 x.b y.b (zL n m (gx l k).1 (gx l k).2.1 (gx l k).2.2 L M))]) rfl (by kernel_rfl) (by kernel_rfl) (fun _ _ _ h => h) (fun w' hk => (by kernel_rfl)) HK ?_
                    refine t_q (n := 5) 9 (.agg #[.int .i64 m, .slice A72 ((zM n m (gx l k).1 (gx l k).2.1 (gx l k).2.2 L M).length) c73, .bool (zb2 n m (gx l k).1 x.b y.b (zM n m (gx l k).1 (gx l k).2.1 (gx l k).2.2 L M))]) rfl (by kernel_rfl) (by kernel_rfl) (fun _ _ _ h => h) (fun w' hk => (by kernel_rfl)) HK ?_
                    refine t_q (n := 4) 10 (.bool (zB n m (gx l k).1 (gx l k).2.1 L M)) rfl (by kernel_rfl) (by kernel_rfl) (fun _ _ _ h => h) (fun w' hk => (by kernel_rfl)) HK ?_
                    obtain ⟨g75, W76, hg_, hw_, H_, hk_⟩ := ex_blk HS [.int .i64 0, .slice none 0 0, .bool false] 32
                    have hv_g75 := Nat.le_trans HK.size (Nat.le_of_eq (Eq.symm hg_))
                    refine t_e (n := 3) 12 (.pointer (some ⟨g75, 0, none⟩)) rfl (by kernel_rfl) (by kernel_rfl) (by subst hg_; subst hw_; kernel_rfl) (HK.tr hk_) ?_
                    replace HK := HK.tr hk_
                    clear hk_
                    clear hg_ hw_
                    replace HS : St W (owns []) W76 [blk g75 [.int .i64 0, .slice none 0 0, .bool false] 32, row A70 ((zL n m (gx l k).1 (gx l k).2.1 (gx l k).2.2 L M).length) c71 (ci .i64 (zL n m (gx l k).1 (gx l k).2.1 (gx l k).2.2 L M)) 3 1, row A72 ((zM n m (gx l k).1 (gx l k).2.1 (gx l k).2.2 L M).length) c73 (ci .i64 (zM n m (gx l k).1 (gx l k).2.1 (gx l k).2.2 L M)) 3 1, blk g68 [.int .i64 0, .slice none 0 0, .bool false] 32, blk g38 [.int .i64 n, .slice A1 L.length c1, .bool x.b] 32, blk g40 [.int .i64 m, .slice A2 M.length c2, .bool y.b] 32, many (mxE 53 74 21 62 63 g28 n L x), many (mxE 53 74 21 62 63 g33 m M y)] := H_
                    clear H_
                    obtain ⟨W77, hrun_, H_, hk_⟩ := ex_ks (P := Tryd.prog) (ty := 0) (ps := "law.go:64") (af := #[{ on := 11, ground := Go.Ground.data }, { on := 8, ground := Go.Ground.data }, { on := 6, ground := Go.Ground.chain }, { on := 0, ground := Go.Ground.phase }, { on := 1, ground := Go.Ground.phase }, { on := 2, ground := Go.Ground.phase }, { on := 3, ground := Go.Ground.phase }, { on := 4, ground := Go.Ground.phase }, { on := 5, ground := Go.Ground.phase }, { on := 6, ground := Go.Ground.phase }, { on := 7, ground := Go.Ground.phase }, { on := 8, ground := Go.Ground.phase }, { on := 9, ground := (Go.Ground.textOnly Go.Departure.lateStores) }, { on := 10, ground := (Go.Ground.textOnly Go.Departure.lateStores) }, { on := 11, ground := Go.Ground.phase }, { on := 12, ground := Go.Ground.phase }]) (gd := none) (t := 32) (x := (Go.Operand.tmp 16)) (y := (Go.Operand.tmp 105)) (v := .agg #[.int .i64 n, .slice A70 ((zL n m (gx l k).1 (gx l k).2.1 (gx l k).2.2 L M).length) c71, .bool (zb1 n m (gx l k).1 x.b y.b (zL n m (gx l k).1 (gx l k).2.1 (gx l k).2.2 L M))]) HS 3 rfl (0) [.int .i64 n, .slice A70 ((zL n m (gx l k).1 (gx l k).2.1 (gx l k).2.2 L M).length) c71, .bool (zb1 n m (gx l k).1 x.b y.b (zL n m (gx l k).1 (gx l k).2.1 (gx l k).2.2 L M))] (by kernel_rfl) (by kernel_rfl) (by kernel_rfl) (by kernel_rfl) (one_ (by kernel_rfl)) (Nat.le_of_ble_eq_true rfl)
                    replace HK := HK.trans hk_ (fun _ h_ => .inr (Nat.le_trans hv_g68 (Nat.le_of_eq (Eq.symm h_))))
                    refine t_s (n := 2) 13 rfl (by kernel_rfl) (by kernel_rfl) hrun_ HK ?_
                    clear hk_ hrun_
                    replace HS : St W (owns []) W77 [blk g75 [.int .i64 0, .slice none 0 0, .bool false] 32, row A70 ((zL n m (gx l k).1 (gx l k).2.1 (gx l k).2.2 L M).length) c71 (ci .i64 (zL n m (gx l k).1 (gx l k).2.1 (gx l k).2.2 L M)) 3 1, row A72 ((zM n m (gx l k).1 (gx l k).2.1 (gx l k).2.2 L M).length) c73 (ci .i64 (zM n m (gx l k).1 (gx l k).2.1 (gx l k).2.2 L M)) 3 1, blk g68 [.int .i64 n, .slice A70 ((zL n m (gx l k).1 (gx l k).2.1 (gx l k).2.2 L M).length) c71, .bool (zb1 n m (gx l k).1 x.b y.b (zL n m (gx l k).1 (gx l k).2.1 (gx l k).2.2 L M))] 32, blk g38 [.int .i64 n, .slice A1 L.length c1, .bool x.b] 32, blk g40 [.int .i64 m, .slice A2 M.length c2, .bool y.b] 32, many (mxE 53 74 21 62 63 g28 n L x), many (mxE 53 74 21 62 63 g33 m M y)] := H_
                    clear H_
                    obtain ⟨W78, hrun_, H_, hk_⟩ := ex_ks (P := Tryd.prog) (ty := 0) (ps := "law.go:64") (af := #[{ on := 12, ground := Go.Ground.data }, { on := 9, ground := Go.Ground.data }, { on := 13, ground := Go.Ground.chain }, { on := 0, ground := Go.Ground.phase }, { on := 1, ground := Go.Ground.phase }, { on := 2, ground := Go.Ground.phase }, { on := 3, ground := Go.Ground.phase }, { on := 4, ground := Go.Ground.phase }, { on := 5, ground := Go.Ground.phase }, { on := 6, ground := Go.Ground.phase }, { on := 7, ground := Go.Ground.phase }, { on := 8, ground := Go.Ground.phase }, { on := 9, ground := Go.Ground.phase }, { on := 10, ground := (Go.Ground.textOnly Go.Departure.lateStores) }, { on := 11, ground := Go.Ground.phase }, { on := 12, ground := Go.Ground.phase }, { on := 13, ground := Go.Ground.phase }]) (gd := none) (t := 32) (x := (Go.Operand.tmp 17)) (y := (Go.Operand.tmp 106)) (v := .agg #[.int .i64 m, .slice A72 ((zM n m (gx l k).1 (gx l k).2.1 (gx l k).2.2 L M).length) c73, .bool (zb2 n m (gx l k).1 x.b y.b (zM n m (gx l k).1 (gx l k).2.1 (gx l k).2.2 L M))]) HS 0 rfl (0) [.int .i64 m, .slice A72 ((zM n m (gx l k).1 (gx l k).2.1 (gx l k).2.2 L M).length) c73, .bool (zb2 n m (gx l k).1 x.b y.b (zM n m (gx l k).1 (gx l k).2.1 (gx l k).2.2 L M))] (by kernel_rfl) (by kernel_rfl) (by kernel_rfl) (by kernel_rfl) (one_ (by kernel_rfl)) (Nat.le_of_ble_eq_true rfl)
                    replace HK := HK.trans hk_ (fun _ h_ => .inr (Nat.le_trans hv_g75 (Nat.le_of_eq (Eq.symm h_))))
                    refine t_s (n := 1) 14 rfl (by kernel_rfl) (by kernel_rfl) hrun_ HK ?_
                    clear hk_ hrun_
                    replace HS : St W (owns []) W78 [blk g75 [.int .i64 m, .slice A72 ((zM n m (gx l k).1 (gx l k).2.1 (gx l k).2.2 L M).length) c73, .bool (zb2 n m (gx l k).1 x.b y.b (zM n m (gx l k).1 (gx l k).2.1 (gx l k).2.2 L M))] 32, row A70 ((zL n m (gx l k).1 (gx l k).2.1 (gx l k).2.2 L M).length) c71 (ci .i64 (zL n m (gx l k).1 (gx l k).2.1 (gx l k).2.2 L M)) 3 1, row A72 ((zM n m (gx l k).1 (gx l k).2.1 (gx l k).2.2 L M).length) c73 (ci .i64 (zM n m (gx l k).1 (gx l k).2.1 (gx l k).2.2 L M)) 3 1, blk g68 [.int .i64 n, .slice A70 ((zL n m (gx l k).1 (gx l k).2.1 (gx l k).2.2 L M).length) c71, .bool (zb1 n m (gx l k).1 x.b y.b (zL n m (gx l k).1 (gx l k).2.1 (gx l k).2.2 L M))] 32, blk g38 [.int .i64 n, .slice A1 L.length c1, .bool x.b] 32, blk g40 [.int .i64 m, .slice A2 M.length c2, .bool y.b] 32, many (mxE 53 74 21 62 63 g28 n L x), many (mxE 53 74 21 62 63 g33 m M y)] := H_
                    clear H_
                    refine t_q (n := 0) 15 (.bool (zB n m (gx l k).1 (gx l k).2.1 L M)) rfl (by kernel_rfl) (by kernel_rfl) (fun _ _ _ h => h) (fun w' hk => (by kernel_rfl)) HK ?_
                    refine t_done (by kernel_rfl) ?_
                    clear HV HK
                    replace HS : St W (owns []) W78 [blk g68 [.int .i64 n, .slice A70 ((zL n m (gx l k).1 (gx l k).2.1 (gx l k).2.2 L M).length) c71, .bool (zb1 n m (gx l k).1 x.b y.b (zL n m (gx l k).1 (gx l k).2.1 (gx l k).2.2 L M))] 32, blk g75 [.int .i64 m, .slice A72 ((zM n m (gx l k).1 (gx l k).2.1 (gx l k).2.2 L M).length) c73, .bool (zb2 n m (gx l k).1 x.b y.b (zM n m (gx l k).1 (gx l k).2.1 (gx l k).2.2 L M))] 32, row A70 ((zL n m (gx l k).1 (gx l k).2.1 (gx l k).2.2 L M).length) c71 (ci .i64 (zL n m (gx l k).1 (gx l k).2.1 (gx l k).2.2 L M)) 3 1, row A72 ((zM n m (gx l k).1 (gx l k).2.1 (gx l k).2.2 L M).length) c73 (ci .i64 (zM n m (gx l k).1 (gx l k).2.1 (gx l k).2.2 L M)) 3 1, blk g38 [.int .i64 n, .slice A1 L.length c1, .bool x.b] 32, blk g40 [.int .i64 m, .slice A2 M.length c2, .bool y.b] 32, many (mxE 53 74 21 62 63 g28 n L x), many (mxE 53 74 21 62 63 g33 m M y)] := St.tail (F := []) (HS.perm (perm_ [3, 0, 1, 2, 4, 5, 6, 7] (by kernel_rfl) rfl))
                    refine x_then ?_
                    exact ⟨(fun k_ : Nat => List.getD ((.int .i64 n) :: (.int .i64 m) :: (.slice (some ad50) l.length cl) :: (.int .i64 i) :: undef :: undef :: undef :: undef :: ((J44 8)) :: (.pointer (some ⟨g28, 0, none⟩)) :: (.int .i64 0) :: (.pointer (some ⟨g33, 0, none⟩)) :: (.int .i64 0) :: (.pointer (some ⟨g38, 0, none⟩)) :: (.pointer (some ⟨g40, 0, none⟩)) :: (.int .i64 k) :: (.pointer (some ⟨g68, 0, none⟩)) :: (.pointer (some ⟨g75, 0, none⟩)) :: (.bool (zB n m (gx l k).1 (gx l k).2.1 L M)) :: (.slice (some ad50) l.length cl) :: (.int .i64 (l.length : Int)) :: (.bool false) :: (.bool false) :: (.int .i64 n) :: (.bool false) :: (.bool false) :: undef :: undef :: (.bool false) :: (.bool false) :: (.bool false) :: (.int .i64 m) :: (.bool false) :: (.bool false) :: (.bool false) :: (.int .i64 m) :: (.bool false) :: (.bool false) :: undef :: (.tuple #[.pointer (some ⟨g28, 0, none⟩), .int .i64 0]) :: (.int .i64 n) :: (.tuple #[.pointer (some ⟨g28, 0, none⟩), .int .i64 0]) :: (.pointer (some ⟨g28, 0, none⟩)) :: (.int .i64 0) :: (.tuple #[.pointer (some ⟨g33, 0, none⟩), .int .i64 0]) :: (.int .i64 m) :: (.tuple #[.pointer (some ⟨g33, 0, none⟩), .int .i64 0]) :: (.pointer (some ⟨g33, 0, none⟩)) :: (.int .i64 0) :: (.int .i64 n) :: (.bool false) :: undef :: undef :: undef :: undef :: undef :: undef :: undef :: undef :: undef :: (.int .i64 n) :: (.bool false) :: undef :: undef :: undef :: undef :: undef :: undef :: undef :: undef :: undef :: (.pointer (some ⟨g28, 0, none⟩)) :: (.bool false) :: (.bool false) :: (.pointer (some ⟨g33, 0, none⟩)) :: (.bool false) :: (.bool false) :: (.bool false) :: (.int .i64 0) :: (.bool false) :: (.bool false) :: (.bool false) :: (.int .i64 0) :: (.bool false) :: (.bool false) :: (.int .i64 n) :: (.agg #[.int .i64 n, .slice none 0 0]) :: (.agg #[.int .i64 n, .slice none 0 0, .bool false]) :: (.int .i64 m) :: (.agg #[.int .i64 m, .slice none 0 0]) :: (.agg #[.int .i64 m, .slice none 0 0, .bool false]) :: (.int .i64 k) :: (.slice (some ad50) l.length cl) :: (.int .i64 (l.length : Int)) :: (.bool true) :: ((J44 95)) :: ((J44 96)) :: (.tuple #[.agg #[.int .i64 n, .slice A70 ((zL n m (gx l k).1 (gx l k).2.1 (gx l k).2.2 L M).length) c71, .bool (zb1 n m (gx l k).1 x.b y.b (zL n m (gx l k).1 (gx l k).2.1 (gx l k).2.2 L M))], .agg #[.int .i64 m, .slice A72 ((zM n m (gx l k).1 (gx l k).2.1 (gx l k).2.2 L M).length) c73, .bool (zb2 n m (gx l k).1 x.b y.b (zM n m (gx l k).1 (gx l k).2.1 (gx l k).2.2 L M))], .bool (zB n m (gx l k).1 (gx l k).2.1 L M)]) :: (.agg #[.int .i64 n, .slice A1 L.length c1, .bool x.b]) :: (.agg #[.int .i64 m, .slice A2 M.length c2, .bool y.b]) :: (.slice (some ad50) l.length cl) :: (.int .i64 k) :: (.pointer (some (ad50.add (k.toNat * 3)))) :: (.agg #[.int .i64 ((gx l k).1), .int .i64 ((gx l k).2.1), .int .i64 ((gx l k).2.2)]) :: (.tuple #[.agg #[.int .i64 n, .slice A70 ((zL n m (gx l k).1 (gx l k).2.1 (gx l k).2.2 L M).length) c71, .bool (zb1 n m (gx l k).1 x.b y.b (zL n m (gx l k).1 (gx l k).2.1 (gx l k).2.2 L M))], .agg #[.int .i64 m, .slice A72 ((zM n m (gx l k).1 (gx l k).2.1 (gx l k).2.2 L M).length) c73, .bool (zb2 n m (gx l k).1 x.b y.b (zM n m (gx l k).1 (gx l k).2.1 (gx l k).2.2 L M))], .bool (zB n m (gx l k).1 (gx l k).2.1 L M)]) :: (.agg #[.int .i64 n, .slice A70 ((zL n m (gx l k).1 (gx l k).2.1 (gx l k).2.2 L M).length) c71, .bool (zb1 n m (gx l k).1 x.b y.b (zL n m (gx l k).1 (gx l k).2.1 (gx l k).2.2 L M))]) :: (.agg #[.int .i64 m, .slice A72 ((zM n m (gx l k).1 (gx l k).2.1 (gx l k).2.2 L M).length) c73, .bool (zb2 n m (gx l k).1 x.b y.b (zM n m (gx l k).1 (gx l k).2.1 (gx l k).2.2 L M))]) :: (.bool (zB n m (gx l k).1 (gx l k).2.1 L M)) :: ((J44 108)) :: ((J44 109)) :: ((J44 110)) :: ((J44 111)) :: ((J44 112)) :: ((J44 113)) :: ((J44 114)) :: ((J44 115)) :: ((J44 116)) :: ((J44 117)) :: ((J44 118)) :: ((J44 119)) :: ((J44 120)) :: ((J44 121)) :: ((J44 122)) :: ((J44 123)) :: ((J44 124)) :: ((J44 125)) :: ((J44 126)) :: ((J44 127)) :: ((J44 128)) :: ((J44 129)) :: ((J44 130)) :: ((J44 131)) :: ((J44 132)) :: ((J44 133)) :: ((J44 134)) :: ((J44 135)) :: ((J44 136)) :: undef :: []) k_ undef), g68, g75, A70, c71, A72, c73, congrArg Fr (by kernel_rfl), HS⟩
                  · skip
                    obtain ⟨g79, W80, hg_, hw_, H_, hk_⟩ := ex_blk HS [.int .i64 0, .slice none 0 0, .bool false] 32
                    have hv_g79 := Nat.le_trans HK.size (Nat.le_of_eq (Eq.symm hg_))
                    refine t_e2 (n := 8) 12 (.pointer (some ⟨g79, 0, none⟩)) rfl (by kernel_rfl) (by subst hg_; subst hw_; kernel_rfl) (HK.tr hk_) ?_
                    replace HK := HK.tr hk_
                    clear hk_
                    clear hg_ hw_
                    replace HS : St W (owns []) W80 [blk g79 [.int .i64 0, .slice none 0 0, .bool false] 32, blk g68 [.int .i64 0, .slice none 0 0, .bool false] 32, row A1 L.length c1 (ci .i64 L) 3 1, row A2 M.length c2 (ci .i64 M) 3 1, blk g38 [.int .i64 n, .slice A1 L.length c1, .bool x.b] 32, blk g40 [.int .i64 m, .slice A2 M.length c2, .bool y.b] 32, many (mxE 53 74 21 62 63 g28 n L x), many (mxE 53 74 21 62 63 g33 m M y)] := H_
                    clear H_
                    refine t_c (n := 7) 6 (f := 7) (args := #[.agg #[.int .i64 n, .slice A1 L.length c1, .bool x.b], .agg #[.int .i64 m, .slice A2 M.length c2, .bool y.b], .agg #[.int .i64 ((gx l k).1), .int .i64 ((gx l k).2.1), .int .i64 ((gx l k).2.2)]]) rfl (by kernel_rfl) (by kernel_rfl) (R_call #[.agg #[.int .i64 n, .slice A1 L.length c1, .bool x.b], .agg #[.int .i64 m, .slice A2 M.length c2, .bool y.b], .agg #[.int .i64 ((gx l k).1), .int .i64 ((gx l k).2.1), .int .i64 ((gx l k).2.2)]] Tryd.func7 (by kernel_rfl) (by kernel_rfl) (by kernel_rfl)) ?_
                    replace HS : St W (owns []) W80 [row A1 L.length c1 (ci .i64 L) 3 1, row A2 M.length c2 (ci .i64 M) 3 1, blk g79 [.int .i64 0, .slice none 0 0, .bool false] 32, blk g68 [.int .i64 0, .slice none 0 0, .bool false] 32, blk g38 [.int .i64 n, .slice A1 L.length c1, .bool x.b] 32, blk g40 [.int .i64 m, .slice A2 M.length c2, .bool y.b] 32, many (mxE 53 74 21 62 63 g28 n L x), many (mxE 53 74 21 62 63 g33 m M y)] := HS.perm (perm_ [2, 3, 0, 1, 4, 5, 6, 7] (by kernel_rfl) rfl)
                    refine (r5do A1 c1 L n x.b A2 c2 M m y.b (gx l k).1 (gx l k).2.1 (gx l k).2.2 _ _ (St.focus (F := [row A1 L.length c1 (ci .i64 L) 3 1, row A2 M.length c2 (ci .i64 M) 3 1]) HS) hok.srt hok.lim hok2.srt hok2.lim (b_or hok) (b_or hok2) (by omega) (by omega) (by omega) (by omega)).mono ?_
                    rintro e W85 ⟨A81, c82, A83, c84, rfl, H_⟩
                    have hkf_ : ∀ k_, owns [row A1 L.length c1 (ci .i64 L) 3 1, row A2 M.length c2 (ci .i64 M) 3 1] k_ → (row A1 L.length c1 (ci .i64 L) 3 1).own k_ ∨ (row A2 M.length c2 (ci .i64 M) 3 1).own k_ := by
                      intro k_ h_; obtain ⟨e_, he_, ho_⟩ := h_; simp only [List.mem_cons, List.not_mem_nil, or_false] at he_; rcases he_ with rfl | rfl <;> first | exact (.inl ho_) | exact (.inr ho_)
                    refine ⟨_, rfl, HK.trans H_.kept (fun _ h_ => .inl (hkf_ _ h_)), ?_⟩
                    replace HK := HK.trans H_.kept (fun _ h_ => .inl (hkf_ _ h_))
                    replace HS : St W (owns []) W85 [row A81 ((zL n m (gx l k).1 (gx l k).2.1 (gx l k).2.2 L M).length) c82 (ci .i64 (zL n m (gx l k).1 (gx l k).2.1 (gx l k).2.2 L M)) 3 1, row A83 ((zM n m (gx l k).1 (gx l k).2.1 (gx l k).2.2 L M).length) c84 (ci .i64 (zM n m (gx l k).1 (gx l k).2.1 (gx l k).2.2 L M)) 3 1, blk g79 [.int .i64 0, .slice none 0 0, .bool false] 32, blk g68 [.int .i64 0, .slice none 0 0, .bool false] 32, blk g38 [.int .i64 n, .slice A1 L.length c1, .bool x.b] 32, blk g40 [.int .i64 m, .slice A2 M.length c2, .bool y.b] 32, many (mxE 53 74 21 62 63 g28 n L x), many (mxE 53 74 21 62 63 g33 m M y)] := HS.join (F := [row A1 L.length c1 (ci .i64 L) 3 1, row A2 M.length c2 (ci .i64 M) 3 1]) (G := [row A81 ((zL n m (gx l k).1 (gx l k).2.1 (gx l k).2.2 L M).length) c82 (ci .i64 (zL n m (gx l k).1 (gx l k).2.1 (gx l k).2.2 L M)) 3 1, row A83 ((zM n m (gx l k).1 (gx l k).2.1 (gx l k).2.2 L M).length) c84 (ci .i64 (zM n m (gx l k).1 (gx l k).2.1 (gx l k).2.2 L M)) 3 1]) H_
                    clear H_
                    refine t_q (n := 6) 7 (.tuple #[.agg #[.int .i64 n, .slice A81 ((zL n m (gx l k).1 (gx l k).2.1 (gx l k).2.2 L M).length) c82, .bool (zb1 n m (gx l k).1 x.b y.b (zL n m (gx l k).1 (gx l k).2.1 (gx l k).2.2 L M))], .agg #[.int .i64 m, .slice A83 ((zM n m (gx l k).1 (gx l k).2.1 (gx l k).2.2 L M).length) c84, .bool (zb2 n m (gx l k).1 x.b y.b (zM n m (gx l k).1 (gx l k).2.1 (gx l k).2.2 L M))], .bool (zB n m (gx l k).1 (gx l k).2.1 L M)]) rfl (by kernel_rfl) (by kernel_rfl) (fun _ _ _ h => h) (fun w' hk => (by kernel_rfl)) HK ?_
                    refine t_q (n := 5) 8 (.agg #[.int .i64 n, .slice A81 ((zL n m (gx l k).1 (gx l k).2.1 (gx l k).2.2 L M).length) c82, .bool (zb1 n m (gx l k).1 x.b y.b (zL n m (gx l k).1 (gx l k).2.1 (gx l k).2.2 L M))]) rfl (by kernel_rfl) (by kernel_rfl) (fun _ _ _ h => h) (fun w' hk => (by kernel_rfl)) HK ?_
                    refine t_q (n := 4) 9 (.agg #[.int .i64 m, .slice A83 ((zM n m (gx l k).1 (gx l k).2.1 (gx l k).2.2 L M).length) c84, .bool (zb2 n m (gx l k).1 x.b y.b (zM n m (gx l k).1 (gx l k).2.1 (gx l k).2.2 L M))]) rfl (by kernel_rfl) (by kernel_rfl) (fun _ _ _ h => h) (fun w' hk => (by kernel_rfl)) HK ?_
                    refine t_q (n := 3) 10 (.bool (zB n m (gx l k).1 (gx l k).2.1 L M)) rfl (by kernel_rfl) (by kernel_rfl) (fun _ _ _ h => h) (fun w' hk => (by kernel_rfl)) HK ?_
                    obtain ⟨W86, hrun_, H_, hk_⟩ := ex_ks (P := Tryd.prog) (ty := 0) (ps := "law.go:64") (af := #[{ on := 11, ground := Go.Ground.data }, { on := 8, ground := Go.Ground.data }, { on := 6, ground := Go.Ground.chain }, { on := 0, ground := Go.Ground.phase }, { on := 1, ground := Go.Ground.phase }, { on := 2, ground := Go.Ground.phase }, { on := 3, ground := Go.Ground.phase }, { on := 4, ground := Go.Ground.phase }, { on := 5, ground := Go.Ground.phase }, { on := 6, ground := Go.Ground.phase }, { on := 7, ground := Go.Ground.phase }, { on := 8, ground := Go.Ground.phase }, { on := 9, ground := (Go.Ground.textOnly Go.Departure.lateStores) }, { on := 10, ground := (Go.Ground.textOnly Go.Departure.lateStores) }, { on := 11, ground := Go.Ground.phase }, { on := 12, ground := Go.Ground.phase }]) (gd := none) (t := 32) (x := (Go.Operand.tmp 16)) (y := (Go.Operand.tmp 105)) (v := .agg #[.int .i64 n, .slice A81 ((zL n m (gx l k).1 (gx l k).2.1 (gx l k).2.2 L M).length) c82, .bool (zb1 n m (gx l k).1 x.b y.b (zL n m (gx l k).1 (gx l k).2.1 (gx l k).2.2 L M))]) HS 3 rfl (0) [.int .i64 n, .slice A81 ((zL n m (gx l k).1 (gx l k).2.1 (gx l k).2.2 L M).length) c82, .bool (zb1 n m (gx l k).1 x.b y.b (zL n m (gx l k).1 (gx l k).2.1 (gx l k).2.2 L M))] (by kernel_rfl) (by kernel_rfl) (by kernel_rfl) (by kernel_rfl) (one_ (by kernel_rfl)) (Nat.le_of_ble_eq_true rfl)
                    replace HK := HK.trans hk_ (fun _ h_ => .inr (Nat.le_trans hv_g68 (Nat.le_of_eq (Eq.symm h_))))
                    refine t_s (n := 2) 13 rfl (by kernel_rfl) (by kernel_rfl) hrun_ HK ?_
                    clear hk_ hrun_
                    replace HS : St W (owns []) W86 [row A81 ((zL n m (gx l k).1 (gx l k).2.1 (gx l k).2.2 L M).length) c82 (ci .i64 (zL n m (gx l k).1 (gx l k).2.1 (gx l k).2.2 L M)) 3 1, row A83 ((zM n m (gx l k).1 (gx l k).2.1 (gx l k).2.2 L M).length) c84 (ci .i64 (zM n m (gx l k).1 (gx l k).2.1 (gx l k).2.2 L M)) 3 1, blk g79 [.int .i64 0, .slice none 0 0, .bool false] 32, blk g68 [.int .i64 n, .slice A81 ((zL n m (gx l k).1 (gx l k).2.1 (gx l k).2.2 L M).length) c82, .bool (zb1 n m (gx l k).1 x.b y.b (zL n m (gx l k).1 (gx l k).2.1 (gx l k).2.2 L M))] 32, blk g38 [.int .i64 n, .slice A1 L.length c1, .bool x.b] 32, blk g40 [.int .i64 m, .slice A2 M.length c2, .bool y.b] 32, many (mxE 53 74 21 62 63 g28 n L x), many (mxE 53 74 21 62 63 g33 m M y)] := H_
                    clear H_
                    obtain ⟨W87, hrun_, H_, hk_⟩ := ex_ks (P := Tryd.prog) (ty := 0) (ps := "law.go:64") (af := #[{ on := 12, ground := Go.Ground.data }, { on := 9, ground := Go.Ground.data }, { on := 13, ground := Go.Ground.chain }, { on := 0, ground := Go.Ground.phase }, { on := 1, ground := Go.Ground.phase }, { on := 2, ground := Go.Ground.phase }, { on := 3, ground := Go.Ground.phase }, { on := 4, ground := Go.Ground.phase }, { on := 5, ground := Go.Ground.phase }, { on := 6, ground := Go.Ground.phase }, { on := 7, ground := Go.Ground.phase }, { on := 8, ground := Go.Ground.phase }, { on := 9, ground := Go.Ground.phase }, { on := 10, ground := (Go.Ground.textOnly Go.Departure.lateStores) }, { on := 11, ground := Go.Ground.phase }, { on := 12, ground := Go.Ground.phase }, { on := 13, ground := Go.Ground.phase }]) (gd := none) (t := 32) (x := (Go.Operand.tmp 17)) (y := (Go.Operand.tmp 106)) (v := .agg #[.int .i64 m, .slice A83 ((zM n m (gx l k).1 (gx l k).2.1 (gx l k).2.2 L M).length) c84, .bool (zb2 n m (gx l k).1 x.b y.b (zM n m (gx l k).1 (gx l k).2.1 (gx l k).2.2 L M))]) HS 2 rfl (0) [.int .i64 m, .slice A83 ((zM n m (gx l k).1 (gx l k).2.1 (gx l k).2.2 L M).length) c84, .bool (zb2 n m (gx l k).1 x.b y.b (zM n m (gx l k).1 (gx l k).2.1 (gx l k).2.2 L M))] (by kernel_rfl) (by kernel_rfl) (by kernel_rfl) (by kernel_rfl) (one_ (by kernel_rfl)) (Nat.le_of_ble_eq_true rfl)
                    replace HK := HK.trans hk_ (fun _ h_ => .inr (Nat.le_trans hv_g79 (Nat.le_of_eq (Eq.symm h_))))
                    refine t_s (n := 1) 14 rfl (by kernel_rfl) (by kernel_rfl) hrun_ HK ?_
                    clear hk_ hrun_
                    replace HS : St W (owns []) W87 [row A81 ((zL n m (gx l k).1 (gx l k).2.1 (gx l k).2.2 L M).length) c82 (ci .i64 (zL n m (gx l k).1 (gx l k).2.1 (gx l k).2.2 L M)) 3 1, row A83 ((zM n m (gx l k).1 (gx l k).2.1 (gx l k).2.2 L M).length) c84 (ci .i64 (zM n m (gx l k).1 (gx l k).2.1 (gx l k).2.2 L M)) 3 1, blk g79 [.int .i64 m, .slice A83 ((zM n m (gx l k).1 (gx l k).2.1 (gx l k).2.2 L M).length) c84, .bool (zb2 n m (gx l k).1 x.b y.b (zM n m (gx l k).1 (gx l k).2.1 (gx l k).2.2 L M))] 32, blk g68 [.int .i64 n, .slice A81 ((zL n m (gx l k).1 (gx l k).2.1 (gx l k).2.2 L M).length) c82, .bool (zb1 n m (gx l k).1 x.b y.b (zL n m (gx l k).1 (gx l k).2.1 (gx l k).2.2 L M))] 32, blk g38 [.int .i64 n, .slice A1 L.length c1, .bool x.b] 32, blk g40 [.int .i64 m, .slice A2 M.length c2, .bool y.b] 32, many (mxE 53 74 21 62 63 g28 n L x), many (mxE 53 74 21 62 63 g33 m M y)] := H_
                    clear H_
                    refine t_q (n := 0) 15 (.bool (zB n m (gx l k).1 (gx l k).2.1 L M)) rfl (by kernel_rfl) (by kernel_rfl) (fun _ _ _ h => h) (fun w' hk => (by kernel_rfl)) HK ?_
                    refine t_done (by kernel_rfl) ?_
                    clear HV HK
                    replace HS : St W (owns []) W87 [blk g68 [.int .i64 n, .slice A81 ((zL n m (gx l k).1 (gx l k).2.1 (gx l k).2.2 L M).length) c82, .bool (zb1 n m (gx l k).1 x.b y.b (zL n m (gx l k).1 (gx l k).2.1 (gx l k).2.2 L M))] 32, blk g79 [.int .i64 m, .slice A83 ((zM n m (gx l k).1 (gx l k).2.1 (gx l k).2.2 L M).length) c84, .bool (zb2 n m (gx l k).1 x.b y.b (zM n m (gx l k).1 (gx l k).2.1 (gx l k).2.2 L M))] 32, row A81 ((zL n m (gx l k).1 (gx l k).2.1 (gx l k).2.2 L M).length) c82 (ci .i64 (zL n m (gx l k).1 (gx l k).2.1 (gx l k).2.2 L M)) 3 1, row A83 ((zM n m (gx l k).1 (gx l k).2.1 (gx l k).2.2 L M).length) c84 (ci .i64 (zM n m (gx l k).1 (gx l k).2.1 (gx l k).2.2 L M)) 3 1, blk g38 [.int .i64 n, .slice A1 L.length c1, .bool x.b] 32, blk g40 [.int .i64 m, .slice A2 M.length c2, .bool y.b] 32, many (mxE 53 74 21 62 63 g28 n L x), many (mxE 53 74 21 62 63 g33 m M y)] := St.tail (F := []) (HS.perm (perm_ [3, 2, 0, 1, 4, 5, 6, 7] (by kernel_rfl) rfl))
                    refine x_then ?_
                    exact ⟨(fun k_ : Nat => List.getD ((.int .i64 n) :: (.int .i64 m) :: (.slice (some ad50) l.length cl) :: (.int .i64 i) :: undef :: undef :: undef :: undef :: ((J44 8)) :: (.pointer (some ⟨g28, 0, none⟩)) :: (.int .i64 0) :: (.pointer (some ⟨g33, 0, none⟩)) :: (.int .i64 0) :: (.pointer (some ⟨g38, 0, none⟩)) :: (.pointer (some ⟨g40, 0, none⟩)) :: (.int .i64 k) :: (.pointer (some ⟨g68, 0, none⟩)) :: (.pointer (some ⟨g79, 0, none⟩)) :: (.bool (zB n m (gx l k).1 (gx l k).2.1 L M)) :: (.slice (some ad50) l.length cl) :: (.int .i64 (l.length : Int)) :: (.bool false) :: (.bool false) :: (.int .i64 n) :: (.bool false) :: (.bool false) :: undef :: undef :: (.bool false) :: (.bool false) :: (.bool false) :: (.int .i64 m) :: (.bool false) :: (.bool false) :: (.bool false) :: (.int .i64 m) :: (.bool false) :: (.bool false) :: undef :: (.tuple #[.pointer (some ⟨g28, 0, none⟩), .int .i64 0]) :: (.int .i64 n) :: (.tuple #[.pointer (some ⟨g28, 0, none⟩), .int .i64 0]) :: (.pointer (some ⟨g28, 0, none⟩)) :: (.int .i64 0) :: (.tuple #[.pointer (some ⟨g33, 0, none⟩), .int .i64 0]) :: (.int .i64 m) :: (.tuple #[.pointer (some ⟨g33, 0, none⟩), .int .i64 0]) :: (.pointer (some ⟨g33, 0, none⟩)) :: (.int .i64 0) :: (.int .i64 n) :: (.bool false) :: undef :: undef :: undef :: undef :: undef :: undef :: undef :: undef :: undef :: (.int .i64 n) :: (.bool false) :: undef :: undef :: undef :: undef :: undef :: undef :: undef :: undef :: undef :: (.pointer (some ⟨g28, 0, none⟩)) :: (.bool false) :: (.bool false) :: (.pointer (some ⟨g33, 0, none⟩)) :: (.bool false) :: (.bool false) :: (.bool false) :: (.int .i64 0) :: (.bool false) :: (.bool false) :: (.bool false) :: (.int .i64 0) :: (.bool false) :: (.bool false) :: (.int .i64 n) :: (.agg #[.int .i64 n, .slice none 0 0]) :: (.agg #[.int .i64 n, .slice none 0 0, .bool false]) :: (.int .i64 m) :: (.agg #[.int .i64 m, .slice none 0 0]) :: (.agg #[.int .i64 m, .slice none 0 0, .bool false]) :: (.int .i64 k) :: (.slice (some ad50) l.length cl) :: (.int .i64 (l.length : Int)) :: (.bool true) :: ((J44 95)) :: ((J44 96)) :: (.tuple #[.agg #[.int .i64 n, .slice A81 ((zL n m (gx l k).1 (gx l k).2.1 (gx l k).2.2 L M).length) c82, .bool (zb1 n m (gx l k).1 x.b y.b (zL n m (gx l k).1 (gx l k).2.1 (gx l k).2.2 L M))], .agg #[.int .i64 m, .slice A83 ((zM n m (gx l k).1 (gx l k).2.1 (gx l k).2.2 L M).length) c84, .bool (zb2 n m (gx l k).1 x.b y.b (zM n m (gx l k).1 (gx l k).2.1 (gx l k).2.2 L M))], .bool (zB n m (gx l k).1 (gx l k).2.1 L M)]) :: (.agg #[.int .i64 n, .slice A1 L.length c1, .bool x.b]) :: (.agg #[.int .i64 m, .slice A2 M.length c2, .bool y.b]) :: (.slice (some ad50) l.length cl) :: (.int .i64 k) :: (.pointer (some (ad50.add (k.toNat * 3)))) :: (.agg #[.int .i64 ((gx l k).1), .int .i64 ((gx l k).2.1), .int .i64 ((gx l k).2.2)]) :: (.tuple #[.agg #[.int .i64 n, .slice A81 ((zL n m (gx l k).1 (gx l k).2.1 (gx l k).2.2 L M).length) c82, .bool (zb1 n m (gx l k).1 x.b y.b (zL n m (gx l k).1 (gx l k).2.1 (gx l k).2.2 L M))], .agg #[.int .i64 m, .slice A83 ((zM n m (gx l k).1 (gx l k).2.1 (gx l k).2.2 L M).length) c84, .bool (zb2 n m (gx l k).1 x.b y.b (zM n m (gx l k).1 (gx l k).2.1 (gx l k).2.2 L M))], .bool (zB n m (gx l k).1 (gx l k).2.1 L M)]) :: (.agg #[.int .i64 n, .slice A81 ((zL n m (gx l k).1 (gx l k).2.1 (gx l k).2.2 L M).length) c82, .bool (zb1 n m (gx l k).1 x.b y.b (zL n m (gx l k).1 (gx l k).2.1 (gx l k).2.2 L M))]) :: (.agg #[.int .i64 m, .slice A83 ((zM n m (gx l k).1 (gx l k).2.1 (gx l k).2.2 L M).length) c84, .bool (zb2 n m (gx l k).1 x.b y.b (zM n m (gx l k).1 (gx l k).2.1 (gx l k).2.2 L M))]) :: (.bool (zB n m (gx l k).1 (gx l k).2.1 L M)) :: ((J44 108)) :: ((J44 109)) :: ((J44 110)) :: ((J44 111)) :: ((J44 112)) :: ((J44 113)) :: ((J44 114)) :: ((J44 115)) :: ((J44 116)) :: ((J44 117)) :: ((J44 118)) :: ((J44 119)) :: ((J44 120)) :: ((J44 121)) :: ((J44 122)) :: ((J44 123)) :: ((J44 124)) :: ((J44 125)) :: ((J44 126)) :: ((J44 127)) :: ((J44 128)) :: ((J44 129)) :: ((J44 130)) :: ((J44 131)) :: ((J44 132)) :: ((J44 133)) :: ((J44 134)) :: ((J44 135)) :: ((J44 136)) :: undef :: []) k_ undef), g68, g79, A81, c82, A83, c84, congrArg Fr (by kernel_rfl), HS⟩
                · skip
                  obtain ⟨g88, W89, hg_, hw_, H_, hk_⟩ := ex_blk HS [.int .i64 0, .slice none 0 0, .bool false] 32
                  have hv_g88 := Nat.le_trans HK.size (Nat.le_of_eq (Eq.symm hg_))
                  refine t_e2 (n := 9) 12 (.pointer (some ⟨g88, 0, none⟩)) rfl (by kernel_rfl) (by subst hg_; subst hw_; kernel_rfl) (HK.tr hk_) ?_
                  replace HK := HK.tr hk_
                  clear hk_
                  clear hg_ hw_
                  replace HS : St W (owns []) W89 [blk g88 [.int .i64 0, .slice none 0 0, .bool false] 32, row A1 L.length c1 (ci .i64 L) 3 1, row A2 M.length c2 (ci .i64 M) 3 1, blk g38 [.int .i64 n, .slice A1 L.length c1, .bool x.b] 32, blk g40 [.int .i64 m, .slice A2 M.length c2, .bool y.b] 32, many (mxE 53 74 21 62 63 g28 n L x), many (mxE 53 74 21 62 63 g33 m M y)] := H_
                  clear H_
                  refine t_pick2 (n := 8) 6 11 (by kernel_rfl) ?_ ?_
                  · skip
                    refine t_c2 (n := 8) 6 (f := 7) (args := #[.agg #[.int .i64 n, .slice A1 L.length c1, .bool x.b], .agg #[.int .i64 m, .slice A2 M.length c2, .bool y.b], .agg #[.int .i64 ((gx l k).1), .int .i64 ((gx l k).2.1), .int .i64 ((gx l k).2.2)]]) rfl (by kernel_rfl) (R_call #[.agg #[.int .i64 n, .slice A1 L.length c1, .bool x.b], .agg #[.int .i64 m, .slice A2 M.length c2, .bool y.b], .agg #[.int .i64 ((gx l k).1), .int .i64 ((gx l k).2.1), .int .i64 ((gx l k).2.2)]] Tryd.func7 (by kernel_rfl) (by kernel_rfl) (by kernel_rfl)) ?_
                    replace HS : St W (owns []) W89 [row A1 L.length c1 (ci .i64 L) 3 1, row A2 M.length c2 (ci .i64 M) 3 1, blk g88 [.int .i64 0, .slice none 0 0, .bool false] 32, blk g38 [.int .i64 n, .slice A1 L.length c1, .bool x.b] 32, blk g40 [.int .i64 m, .slice A2 M.length c2, .bool y.b] 32, many (mxE 53 74 21 62 63 g28 n L x), many (mxE 53 74 21 62 63 g33 m M y)] := HS.perm (perm_ [1, 2, 0, 3, 4, 5, 6] (by kernel_rfl) rfl)
                    refine (r5do A1 c1 L n x.b A2 c2 M m y.b (gx l k).1 (gx l k).2.1 (gx l k).2.2 _ _ (St.focus (F := [row A1 L.length c1 (ci .i64 L) 3 1, row A2 M.length c2 (ci .i64 M) 3 1]) HS) hok.srt hok.lim hok2.srt hok2.lim (b_or hok) (b_or hok2) (by omega) (by omega) (by omega) (by omega)).mono ?_
                    rintro e W94 ⟨A90, c91, A92, c93, rfl, H_⟩
                    have hkf_ : ∀ k_, owns [row A1 L.length c1 (ci .i64 L) 3 1, row A2 M.length c2 (ci .i64 M) 3 1] k_ → (row A1 L.length c1 (ci .i64 L) 3 1).own k_ ∨ (row A2 M.length c2 (ci .i64 M) 3 1).own k_ := by
                      intro k_ h_; obtain ⟨e_, he_, ho_⟩ := h_; simp only [List.mem_cons, List.not_mem_nil, or_false] at he_; rcases he_ with rfl | rfl <;> first | exact (.inl ho_) | exact (.inr ho_)
                    refine ⟨_, rfl, HK.trans H_.kept (fun _ h_ => .inl (hkf_ _ h_)), ?_⟩
                    replace HK := HK.trans H_.kept (fun _ h_ => .inl (hkf_ _ h_))
                    replace HS : St W (owns []) W94 [row A90 ((zL n m (gx l k).1 (gx l k).2.1 (gx l k).2.2 L M).length) c91 (ci .i64 (zL n m (gx l k).1 (gx l k).2.1 (gx l k).2.2 L M)) 3 1, row A92 ((zM n m (gx l k).1 (gx l k).2.1 (gx l k).2.2 L M).length) c93 (ci .i64 (zM n m (gx l k).1 (gx l k).2.1 (gx l k).2.2 L M)) 3 1, blk g88 [.int .i64 0, .slice none 0 0, .bool false] 32, blk g38 [.int .i64 n, .slice A1 L.length c1, .bool x.b] 32, blk g40 [.int .i64 m, .slice A2 M.length c2, .bool y.b] 32, many (mxE 53 74 21 62 63 g28 n L x), many (mxE 53 74 21 62 63 g33 m M y)] := HS.join (F := [row A1 L.length c1 (ci .i64 L) 3 1, row A2 M.length c2 (ci .i64 M) 3 1]) (G := [row A90 ((zL n m (gx l k).1 (gx l k).2.1 (gx l k).2.2 L M).length) c91 (ci .i64 (zL n m (gx l k).1 (gx l k).2.1 (gx l k).2.2 L M)) 3 1, row A92 ((zM n m (gx l k).1 (gx l k).2.1 (gx l k).2.2 L M).length) c93 (ci .i64 (zM n m (gx l k).1 (gx l k).2.1 (gx l k).2.2 L M)) 3 1]) H_
                    clear H_
                    refine t_q (n := 7) 7 (.tuple #[.agg #[.int .i64 n, .slice A90 ((zL n m (gx l k).1 (gx l k).2.1 (gx l k).2.2 L M).length) c91, .bool (zb1 n m (gx l k).1 x.b y.b (zL n m (gx l k).1 (gx l k).2.1 (gx l k).2.2 L M))], .agg #[.int .i64 m, .slice A92 ((zM n m (gx l k).1 (gx l k).2.1 (gx l k).2.2 L M).length) c93, .bool (zb2 n m (gx l k).1 x.b y.b (zM n m (gx l k).1 (gx l k).2.1 (gx l k).2.2 L M))], .bool (zB n m (gx l k).1 (gx l k).2.1 L M)]) rfl (by kernel_rfl) (by kernel_rfl) (fun _ _ _ h => h) (fun w' hk => (by kernel_rfl)) HK ?_
                    refine t_q (n := 6) 8 (.agg #[.int .i64 n, .slice A90 ((zL n m (gx l k).1 (gx l k).2.1 (gx l k).2.2 L M).length) c91, .bool (zb1 n m (gx l k).1 x.b y.b (zL n m (gx l k).1 (gx l k).2.1 (gx l k).2.2 L M))]) rfl (by kernel_rfl) (by kernel_rfl) (fun _ _ _ h => h) (fun w' hk => (by kernel_rfl)) HK ?_
                    refine t_q (n := 5) 9 (.agg #[.int .i64 m, .slice A92 ((zM n m (gx l k).1 (gx l k).2.1 (gx l k).2.2 L M).length) c93, .bool (zb2 n m (gx l k).1 x.b y.b (zM n m (gx l k).1 (gx l k).2.1 (gx l k).2.2 L M))]) rfl (by kernel_rfl) (by kernel_rfl) (fun _ _ _ h => h) (fun w' hk => (by kernel_rfl)) HK ?_
                    refine t_q (n := 4) 10 (.bool (zB n m (gx l k).1 (gx l k).2.1 L M)) rfl (by kernel_rfl) (by kernel_rfl) (fun _ _ _ h => h) (fun w' hk => (by kernel_rfl)) HK ?_
                    obtain ⟨g95, W96, hg_, hw_, H_, hk_⟩ := ex_blk HS [.int .i64 0, .slice none 0 0, .bool false] 32
                    have hv_g95 := Nat.le_trans HK.size (Nat.le_of_eq (Eq.symm hg_))
                    refine t_e (n := 3) 11 (.pointer (some ⟨g95, 0, none⟩)) rfl (by kernel_rfl) (by kernel_rfl) (by subst hg_; subst hw_; kernel_rfl) (HK.tr hk_) ?_
                    replace HK := HK.tr hk_
                    clear hk_
                    clear hg_ hw_
                    replace HS : St W (owns []) W96 [blk g95 [.int .i64 0, .slice none 0 0, .bool false] 32, row A90 ((zL n m (gx l k).1 (gx l k).2.1 (gx l k).2.2 L M).length) c91 (ci .i64 (zL n m (gx l k).1 (gx l k).2.1 (gx l k).2.2 L M)) 3 1, row A92 ((zM n m (gx l k).1 (gx l k).2.1 (gx l k).2.2 L M).length) c93 (ci .i64 (zM n m (gx l k).1 (gx l k).2.1 (gx l k).2.2 L M)) 3 1, blk g88 [.int .i64 0, .slice none 0 0, .bool false] 32, blk g38 [.int .i64 n, .slice A1 L.length c1, .bool x.b] 32, blk g40 [.int .i64 m, .slice A2 M.length c2, .bool y.b] 32, many (mxE 53 74 21 62 63 g28 n L x), many (mxE 53 74 21 62 63 g33 m M y)] := H_
                    clear H_
                    obtain ⟨W97, hrun_, H_, hk_⟩ := ex_ks (P := Tryd.prog) (ty := 0) (ps := "law.go:64") (af := #[{ on := 11, ground := Go.Ground.data }, { on := 8, ground := Go.Ground.data }, { on := 6, ground := Go.Ground.chain }, { on := 0, ground := Go.Ground.phase }, { on := 1, ground := Go.Ground.phase }, { on := 2, ground := Go.Ground.phase }, { on := 3, ground := Go.Ground.phase }, { on := 4, ground := Go.Ground.phase }, { on := 5, ground := Go.Ground.phase }, { on := 6, ground := Go.Ground.phase }, { on := 7, ground := Go.Ground.phase }, { on := 8, ground := Go.Ground.phase }, { on := 9, ground := (Go.Ground.textOnly Go.Departure.lateStores) }, { on := 10, ground := (Go.Ground.textOnly Go.Departure.lateStores) }, { on := 11, ground := Go.Ground.phase }, { on := 12, ground := Go.Ground.phase }]) (gd := none) (t := 32) (x := (Go.Operand.tmp 16)) (y := (Go.Operand.tmp 105)) (v := .agg #[.int .i64 n, .slice A90 ((zL n m (gx l k).1 (gx l k).2.1 (gx l k).2.2 L M).length) c91, .bool (zb1 n m (gx l k).1 x.b y.b (zL n m (gx l k).1 (gx l k).2.1 (gx l k).2.2 L M))]) HS 0 rfl (0) [.int .i64 n, .slice A90 ((zL n m (gx l k).1 (gx l k).2.1 (gx l k).2.2 L M).length) c91, .bool (zb1 n m (gx l k).1 x.b y.b (zL n m (gx l k).1 (gx l k).2.1 (gx l k).2.2 L M))] (by kernel_rfl) (by kernel_rfl) (by kernel_rfl) (by kernel_rfl) (one_ (by kernel_rfl)) (Nat.le_of_ble_eq_true rfl)
                    replace HK := HK.trans hk_ (fun _ h_ => .inr (Nat.le_trans hv_g95 (Nat.le_of_eq (Eq.symm h_))))
                    refine t_s (n := 2) 13 rfl (by kernel_rfl) (by kernel_rfl) hrun_ HK ?_
                    clear hk_ hrun_
                    replace HS : St W (owns []) W97 [blk g95 [.int .i64 n, .slice A90 ((zL n m (gx l k).1 (gx l k).2.1 (gx l k).2.2 L M).length) c91, .bool (zb1 n m (gx l k).1 x.b y.b (zL n m (gx l k).1 (gx l k).2.1 (gx l k).2.2 L M))] 32, row A90 ((zL n m (gx l k).1 (gx l k).2.1 (gx l k).2.2 L M).length) c91 (ci .i64 (zL n m (gx l k).1 (gx l k).2.1 (gx l k).2.2 L M)) 3 1, row A92 ((zM n m (gx l k).1 (gx l k).2.1 (gx l k).2.2 L M).length) c93 (ci .i64 (zM n m (gx l k).1 (gx l k).2.1 (gx l k).2.2 L M)) 3 1, blk g88 [.int .i64 0, .slice none 0 0, .bool false] 32, blk g38 [.int .i64 n, .slice A1 L.length c1, .bool x.b] 32, blk g40 [.int .i64 m, .slice A2 M.length c2, .bool y.b] 32, many (mxE 53 74 21 62 63 g28 n L x), many (mxE 53 74 21 62 63 g33 m M y)] := H_
                    clear H_
                    obtain ⟨W98, hrun_, H_, hk_⟩ := ex_ks (P := Tryd.prog) (ty := 0) (ps := "law.go:64") (af := #[{ on := 12, ground := Go.Ground.data }, { on := 9, ground := Go.Ground.data }, { on := 13, ground := Go.Ground.chain }, { on := 0, ground := Go.Ground.phase }, { on := 1, ground := Go.Ground.phase }, { on := 2, ground := Go.Ground.phase }, { on := 3, ground := Go.Ground.phase }, { on := 4, ground := Go.Ground.phase }, { on := 5, ground := Go.Ground.phase }, { on := 6, ground := Go.Ground.phase }, { on := 7, ground := Go.Ground.phase }, { on := 8, ground := Go.Ground.phase }, { on := 9, ground := Go.Ground.phase }, { on := 10, ground := (Go.Ground.textOnly Go.Departure.lateStores) }, { on := 11, ground := Go.Ground.phase }, { on := 12, ground := Go.Ground.phase }, { on := 13, ground := Go.Ground.phase }]) (gd := none) (t := 32) (x := (Go.Operand.tmp 17)) (y := (Go.Operand.tmp 106)) (v := .agg #[.int .i64 m, .slice A92 ((zM n m (gx l k).1 (gx l k).2.1 (gx l k).2.2 L M).length) c93, .bool (zb2 n m (gx l k).1 x.b y.b (zM n m (gx l k).1 (gx l k).2.1 (gx l k).2.2 L M))]) HS 3 rfl (0) [.int .i64 m, .slice A92 ((zM n m (gx l k).1 (gx l k).2.1 (gx l k).2.2 L M).length) c93, .bool (zb2 n m (gx l k).1 x.b y.b (zM n m (gx l k).1 (gx l k).2.1 (gx l k).2.2 L M))] (by kernel_rfl) (by kernel_rfl) (by kernel_rfl) (by kernel_rfl) (one_ (by kernel_rfl)) (Nat.le_of_ble_eq_true rfl)
                    replace HK := HK.trans hk_ (fun _ h_ => .inr (Nat.le_trans hv_g88 (Nat.le_of_eq (Eq.symm h_))))
                    refine t_s (n := 1) 14 rfl (by kernel_rfl) (by kernel_rfl) hrun_ HK ?_
                    clear hk_ hrun_
                    replace HS : St W (owns []) W98 [blk g95 [.int .i64 n, .slice A90 ((zL n m (gx l k).1 (gx l k).2.1 (gx l k).2.2 L M).length) c91, .bool (zb1 n m (gx l k).1 x.b y.b (zL n m (gx l k).1 (gx l k).2.1 (gx l k).2.2 L M))] 32, row A90 ((zL n m (gx l k).1 (gx l k).2.1 (gx l k).2.2 L M).length) c91 (ci .i64 (zL n m (gx l k).1 (gx l k).2.1 (gx l k).2.2 L M)) 3 1, row A92 ((zM n m (gx l k).1 (gx l k).2.1 (gx l k).2.2 L M).length) c93 (ci .i64 (zM n m (gx l k).1 (gx l k).2.1 (gx l k).2.2 L M)) 3 1, blk g88 [.int .i64 m, .slice A92 ((zM n m (gx l k).1 (gx l k).2.1 (gx l k).2.2 L M).length) c93, .bool (zb2 n m (gx l k).1 x.b y.b (zM n m (gx l k).1 (gx l k).2.1 (gx l k).2.2 L M))] 32, blk g38 [.int .i64 n, .slice A1 L.length c1, .bool x.b] 32, blk g40 [.int .i64 m, .slice A2 M.length c2, .bool y.b] 32, many (mxE 53 74 21 62 63 g28 n L x), many (mxE 53 74 21 62 63 g33 m M y)] := H_
                    clear H_
                    refine t_q (n := 0) 15 (.bool (zB n m (gx l k).1 (gx l k).2.1 L M)) rfl (by kernel_rfl) (by kernel_rfl) (fun _ _ _ h => h) (fun w' hk => (by kernel_rfl)) HK ?_
                    refine t_done (by kernel_rfl) ?_
                    clear HV HK
                    replace HS : St W (owns []) W98 [blk g95 [.int .i64 n, .slice A90 ((zL n m (gx l k).1 (gx l k).2.1 (gx l k).2.2 L M).length) c91, .bool (zb1 n m (gx l k).1 x.b y.b (zL n m (gx l k).1 (gx l k).2.1 (gx l k).2.2 L M))] 32, blk g88 [.int .i64 m, .slice A92 ((zM n m (gx l k).1 (gx l k).2.1 (gx l k).2.2 L M).length) c93, .bool (zb2 n m (gx l k).1 x.b y.b (zM n m (gx l k).1 (gx l k).2.1 (gx l k).2.2 L M))] 32, row A90 ((zL n m (gx l k).1 (gx l k).2.1 (gx l k).2.2 L M).length) c91 (ci .i64 (zL n m (gx l k).1 (gx l k).2.1 (gx l k).2.2 L M)) 3 1, row A92 ((zM n m (gx l k).1 (gx l k).2.1 (gx l k).2.2 L M).length) c93 (ci .i64 (zM n m (gx l k).1 (gx l k).2.1 (gx l k).2.2 L M)) 3 1, blk g38 [.int .i64 n, .slice A1 L.length c1, .bool x.b] 32, blk g40 [.int .i64 m, .slice A2 M.length c2, .bool y.b] 32, many (mxE 53 74 21 62 63 g28 n L x), many (mxE 53 74 21 62 63 g33 m M y)] := St.tail (F := []) (HS.perm (perm_ [0, 3, 1, 2, 4, 5, 6, 7] (by kernel_rfl) rfl))
                    refine x_then ?_
                    exact ⟨(fun k_ : Nat => List.getD ((.int .i64 n) :: (.int .i64 m) :: (.slice (some ad50) l.length cl) :: (.int .i64 i) :: undef :: undef :: undef :: undef :: ((J44 8)) :: (.pointer (some ⟨g28, 0, none⟩)) :: (.int .i64 0) :: (.pointer (some ⟨g33, 0, none⟩)) :: (.int .i64 0) :: (.pointer (some ⟨g38, 0, none⟩)) :: (.pointer (some ⟨g40, 0, none⟩)) :: (.int .i64 k) :: (.pointer (some ⟨g95, 0, none⟩)) :: (.pointer (some ⟨g88, 0, none⟩)) :: (.bool (zB n m (gx l k).1 (gx l k).2.1 L M)) :: (.slice (some ad50) l.length cl) :: (.int .i64 (l.length : Int)) :: (.bool false) :: (.bool false) :: (.int .i64 n) :: (.bool false) :: (.bool false) :: undef :: undef :: (.bool false) :: (.bool false) :: (.bool false) :: (.int .i64 m) :: (.bool false) :: (.bool false) :: (.bool false) :: (.int .i64 m) :: (.bool false) :: (.bool false) :: undef :: (.tuple #[.pointer (some ⟨g28, 0, none⟩), .int .i64 0]) :: (.int .i64 n) :: (.tuple #[.pointer (some ⟨g28, 0, none⟩), .int .i64 0]) :: (.pointer (some ⟨g28, 0, none⟩)) :: (.int .i64 0) :: (.tuple #[.pointer (some ⟨g33, 0, none⟩), .int .i64 0]) :: (.int .i64 m) :: (.tuple #[.pointer (some ⟨g33, 0, none⟩), .int .i64 0]) :: (.pointer (some ⟨g33, 0, none⟩)) :: (.int .i64 0) :: (.int .i64 n) :: (.bool false) :: undef :: undef :: undef :: undef :: undef :: undef :: undef :: undef :: undef :: (.int .i64 n) :: (.bool false) :: undef :: undef :: undef :: undef :: undef :: undef :: undef :: undef :: undef :: (.pointer (some ⟨g28, 0, none⟩)) :: (.bool false) :: (.bool false) :: (.pointer (some ⟨g33, 0, none⟩)) :: (.bool false) :: (.bool false) :: (.bool false) :: (.int .i64 0) :: (.bool false) :: (.bool false) :: (.bool false) :: (.int .i64 0) :: (.bool false) :: (.bool false) :: (.int .i64 n) :: (.agg #[.int .i64 n, .slice none 0 0]) :: (.agg #[.int .i64 n, .slice none 0 0, .bool false]) :: (.int .i64 m) :: (.agg #[.int .i64 m, .slice none 0 0]) :: (.agg #[.int .i64 m, .slice none 0 0, .bool false]) :: (.int .i64 k) :: (.slice (some ad50) l.length cl) :: (.int .i64 (l.length : Int)) :: (.bool true) :: ((J44 95)) :: ((J44 96)) :: (.tuple #[.agg #[.int .i64 n, .slice A90 ((zL n m (gx l k).1 (gx l k).2.1 (gx l k).2.2 L M).length) c91, .bool (zb1 n m (gx l k).1 x.b y.b (zL n m (gx l k).1 (gx l k).2.1 (gx l k).2.2 L M))], .agg #[.int .i64 m, .slice A92 ((zM n m (gx l k).1 (gx l k).2.1 (gx l k).2.2 L M).length) c93, .bool (zb2 n m (gx l k).1 x.b y.b (zM n m (gx l k).1 (gx l k).2.1 (gx l k).2.2 L M))], .bool (zB n m (gx l k).1 (gx l k).2.1 L M)]) :: (.agg #[.int .i64 n, .slice A1 L.length c1, .bool x.b]) :: (.agg #[.int .i64 m, .slice A2 M.length c2, .bool y.b]) :: (.slice (some ad50) l.length cl) :: (.int .i64 k) :: (.pointer (some (ad50.add (k.toNat * 3)))) :: (.agg #[.int .i64 ((gx l k).1), .int .i64 ((gx l k).2.1), .int .i64 ((gx l k).2.2)]) :: (.tuple #[.agg #[.int .i64 n, .slice A90 ((zL n m (gx l k).1 (gx l k).2.1 (gx l k).2.2 L M).length) c91, .bool (zb1 n m (gx l k).1 x.b y.b (zL n m (gx l k).1 (gx l k).2.1 (gx l k).2.2 L M))], .agg #[.int .i64 m, .slice A92 ((zM n m (gx l k).1 (gx l k).2.1 (gx l k).2.2 L M).length) c93, .bool (zb2 n m (gx l k).1 x.b y.b (zM n m (gx l k).1 (gx l k).2.1 (gx l k).2.2 L M))], .bool (zB n m (gx l k).1 (gx l k).2.1 L M)]) :: (.agg #[.int .i64 n, .slice A90 ((zL n m (gx l k).1 (gx l k).2.1 (gx l k).2.2 L M).length) c91, .bool (zb1 n m (gx l k).1 x.b y.b (zL n m (gx l k).1 (gx l k).2.1 (gx l k).2.2 L M))]) :: (.agg #[.int .i64 m, .slice A92 ((zM n m (gx l k).1 (gx l k).2.1 (gx l k).2.2 L M).length) c93, .bool (zb2 n m (gx l k).1 x.b y.b (zM n m (gx l k).1 (gx l k).2.1 (gx l k).2.2 L M))]) :: (.bool (zB n m (gx l k).1 (gx l k).2.1 L M)) :: ((J44 108)) :: ((J44 109)) :: ((J44 110)) :: ((J44 111)) :: ((J44 112)) :: ((J44 113)) :: ((J44 114)) :: ((J44 115)) :: ((J44 116)) :: ((J44 117)) :: ((J44 118)) :: ((J44 119)) :: ((J44 120)) :: ((J44 121)) :: ((J44 122)) :: ((J44 123)) :: ((J44 124)) :: ((J44 125)) :: ((J44 126)) :: ((J44 127)) :: ((J44 128)) :: ((J44 129)) :: ((J44 130)) :: ((J44 131)) :: ((J44 132)) :: ((J44 133)) :: ((J44 134)) :: ((J44 135)) :: ((J44 136)) :: undef :: []) k_ undef), g95, g88, A90, c91, A92, c93, congrArg Fr (by kernel_rfl), HS⟩
                  · skip
                    obtain ⟨g99, W100, hg_, hw_, H_, hk_⟩ := ex_blk HS [.int .i64 0, .slice none 0 0, .bool false] 32
                    have hv_g99 := Nat.le_trans HK.size (Nat.le_of_eq (Eq.symm hg_))
                    refine t_e2 (n := 8) 11 (.pointer (some ⟨g99, 0, none⟩)) rfl (by kernel_rfl) (by subst hg_; subst hw_; kernel_rfl) (HK.tr hk_) ?_
                    replace HK := HK.tr hk_
                    clear hk_
                    clear hg_ hw_
                    replace HS : St W (owns []) W100 [blk g99 [.int .i64 0, .slice none 0 0, .bool false] 32, blk g88 [.int .i64 0, .slice none 0 0, .bool false] 32, row A1 L.length c1 (ci .i64 L) 3 1, row A2 M.length c2 (ci .i64 M) 3 1, blk g38 [.int .i64 n, .slice A1 L.length c1, .bool x.b] 32, blk g40 [.int .i64 m, .slice A2 M.length c2, .bool y.b] 32, many (mxE 53 74 21 62 63 g28 n L x), many (mxE 53 74 21 62 63 g33 m M y)] := H_
                    clear H_
                    refine t_c (n := 7) 6 (f := 7) (args := #[.agg #[.int .i64 n, .slice A1 L.length c1, .bool x.b], .agg #[.int .i64 m, .slice A2 M.length c2, .bool y.b], .agg #[.int .i64 ((gx l k).1), .int .i64 ((gx l k).2.1), .int .i64 ((gx l k).2.2)]]) rfl (by kernel_rfl) (by kernel_rfl) (R_call #[.agg #[.int .i64 n, .slice A1 L.length c1, .bool x.b], .agg #[.int .i64 m, .slice A2 M.length c2, .bool y.b], .agg #[.int .i64 ((gx l k).1), .int .i64 ((gx l k).2.1), .int .i64 ((gx l k).2.2)]] Tryd.func7 (by kernel_rfl) (by kernel_rfl) (by kernel_rfl)) ?_
                    replace HS : St W (owns []) W100 [row A1 L.length c1 (ci .i64 L) 3 1, row A2 M.length c2 (ci .i64 M) 3 1, blk g99 [.int .i64 0, .slice none 0 0, .bool false] 32, blk g88 [.int .i64 0, .slice none 0 0, .bool false] 32, blk g38 [.int .i64 n, .slice A1 L.length c1, .bool x.b] 32, blk g40 [.int .i64 m, .slice A2 M.length c2, .bool y.b] 32, many (mxE 53 74 21 62 63 g28 n L x), many (mxE 53 74 21 62 63 g33 m M y)] := HS.perm (perm_ [2, 3, 0, 1, 4, 5, 6, 7] (by kernel_rfl) rfl)
                    refine (r5do A1 c1 L n x.b A2 c2 M m y.b (gx l k).1 (gx l k).2.1 (gx l k).2.2 _ _ (St.focus (F := [row A1 L.length c1 (ci .i64 L) 3 1, row A2 M.length c2 (ci .i64 M) 3 1]) HS) hok.srt hok.lim hok2.srt hok2.lim (b_or hok) (b_or hok2) (by omega) (by omega) (by omega) (by omega)).mono ?_
                    rintro e W105 ⟨A101, c102, A103, c104, rfl, H_⟩
                    have hkf_ : ∀ k_, owns [row A1 L.length c1 (ci .i64 L) 3 1, row A2 M.length c2 (ci .i64 M) 3 1] k_ → (row A1 L.length c1 (ci .i64 L) 3 1).own k_ ∨ (row A2 M.length c2 (ci .i64 M) 3 1).own k_ := by
                      intro k_ h_; obtain ⟨e_, he_, ho_⟩ := h_; simp only [List.mem_cons, List.not_mem_nil, or_false] at he_; rcases he_ with rfl | rfl <;> first | exact (.inl ho_) | exact (.inr ho_)
                    refine ⟨_, rfl, HK.trans H_.kept (fun _ h_ => .inl (hkf_ _ h_)), ?_⟩
                    replace HK := HK.trans H_.kept (fun _ h_ => .inl (hkf_ _ h_))
                    replace HS : St W (owns []) W105 [row A101 ((zL n m (gx l k).1 (gx l k).2.1 (gx l k).2.2 L M).length) c102 (ci .i64 (zL n m (gx l k).1 (gx l k).2.1 (gx l k).2.2 L M)) 3 1, row A103 ((zM n m (gx l k).1 (gx l k).2.1 (gx l k).2.2 L M).length) c104 (ci .i64 (zM n m (gx l k).1 (gx l k).2.1 (gx l k).2.2 L M)) 3 1, blk g99 [.int .i64 0, .slice none 0 0, .bool false] 32, blk g88 [.int .i64 0, .slice none 0 0, .bool false] 32, blk g38 [.int .i64 n, .slice A1 L.length c1, .bool x.b] 32, blk g40 [.int .i64 m, .slice A2 M.length c2, .bool y.b] 32, many (mxE 53 74 21 62 63 g28 n L x), many (mxE 53 74 21 62 63 g33 m M y)] := HS.join (F := [row A1 L.length c1 (ci .i64 L) 3 1, row A2 M.length c2 (ci .i64 M) 3 1]) (G := [row A101 ((zL n m (gx l k).1 (gx l k).2.1 (gx l k).2.2 L M).length) c102 (ci .i64 (zL n m (gx l k).1 (gx l k).2.1 (gx l k).2.2 L M)) 3 1, row A103 ((zM n m (gx l k).1 (gx l k).2.1 (gx l k).2.2 L M).length) c104 (ci .i64 (zM n m (gx l k).1 (gx l k).2.1 (gx l k).2.2 L M)) 3 1]) H_
                    clear H_
                    refine t_q (n := 6) 7 (.tuple #[.agg #[.int .i64 n, .slice A101 ((zL n m (gx l k).1 (gx l k).2.1 (gx l k).2.2 L M).length) c102, .bool (zb1 n m (gx l k).1 x.b y.b (zL n m (gx l k).1 (gx l k).2.1 (gx l k).2.2 L M))], .agg #[.int .i64 m, .slice A103 ((zM n m (gx l k).1 (gx l k).2.1 (gx l k).2.2 L M).length) c104, .bool (zb2 n m (gx l k).1 x.b y.b (zM n m (gx l k).1 (gx l k).2.1 (gx l k).2.2 L M))], .bool (zB n m (gx l k).1 (gx l k).2.1 L M)]) rfl (by kernel_rfl) (by kernel_rfl) (fun _ _ _ h => h) (fun w' hk => (by kernel_rfl)) HK ?_
                    refine t_q (n := 5) 8 (.agg #[.int .i64 n, .slice A101 ((zL n m (gx l k).1 (gx l k).2.1 (gx l k).2.2 L M).length) c102, .bool (zb1 n m (gx l k).1 x.b y.b (zL n m (gx l k).1 (gx l k).2.1 (gx l k).2.2 L M))]) rfl (by kernel_rfl) (by kernel_rfl) (fun _ _ _ h => h) (fun w' hk => (by kernel_rfl)) HK ?_
                    refine t_q (n := 4) 9 (.agg #[.int .i64 m, .slice A103 ((zM n m (gx l k).1 (gx l k).2.1 (gx l k).2.2 L M).length) c104, .bool (zb2 n m (gx l k).1 x.b y.b (zM n m (gx l k).1 (gx l k).2.1 (gx l k).2.2 L M))]) rfl (by kernel_rfl) (by kernel_rfl) (fun _ _ _ h => h) (fun w' hk => (by kernel_rfl)) HK ?_
                    refine t_q (n := 3) 10 (.bool (zB n m (gx l k).1 (gx l k).2.1 L M)) rfl (by kernel_rfl) (by kernel_rfl) (fun _ _ _ h => h) (fun w' hk => (by kernel_rfl)) HK ?_
                    obtain ⟨W106, hrun_, H_, hk_⟩ := ex_ks (P := Tryd.prog) (ty := 0) (ps := "law.go:64") (af := #[{ on := 11, ground := Go.Ground.data }, { on := 8, ground := Go.Ground.data }, { on := 6, ground := Go.Ground.chain }, { on := 0, ground := Go.Ground.phase }, { on := 1, ground := Go.Ground.phase }, { on := 2, ground := Go.Ground.phase }, { on := 3, ground := Go.Ground.phase }, { on := 4, ground := Go.Ground.phase }, { on := 5, ground := Go.Ground.phase }, { on := 6, ground := Go.Ground.phase }, { on := 7, ground := Go.Ground.phase }, { on := 8, ground := Go.Ground.phase }, { on := 9, ground := (Go.Ground.textOnly Go.Departure.lateStores) }, { on := 10, ground := (Go.Ground.textOnly Go.Departure.lateStores) }, { on := 11, ground := Go.Ground.phase }, { on := 12, ground := Go.Ground.phase }]) (gd := none) (t := 32) (x := (Go.Operand.tmp 16)) (y := (Go.Operand.tmp 105)) (v := .agg #[.int .i64 n, .slice A101 ((zL n m (gx l k).1 (gx l k).2.1 (gx l k).2.2 L M).length) c102, .bool (zb1 n m (gx l k).1 x.b y.b (zL n m (gx l k).1 (gx l k).2.1 (gx l k).2.2 L M))]) HS 2 rfl (0) [.int .i64 n, .slice A101 ((zL n m (gx l k).1 (gx l k).2.1 (gx l k).2.2 L M).length) c102, .bool (zb1 n m (gx l k).1 x.b y.b (zL n m (gx l k).1 (gx l k).2.1 (gx l k).2.2 L M))] (by kernel_rfl) (by kernel_rfl) (by kernel_rfl) (by kernel_rfl) (one_ (by kernel_rfl)) (Nat.le_of_ble_eq_true rfl)
                    replace HK := HK.trans hk_ (fun _ h_ => .inr (Nat.le_trans hv_g99 (Nat.le_of_eq (Eq.symm h_))))
                    refine t_s (n := 2) 13 rfl (by kernel_rfl) (by kernel_rfl) hrun_ HK ?_
                    clear hk_ hrun_
                    replace HS : St W (owns []) W106 [row A101 ((zL n m (gx l k).1 (gx l k).2.1 (gx l k).2.2 L M).length) c102 (ci .i64 (zL n m (gx l k).1 (gx l k).2.1 (gx l k).2.2 L M)) 3 1, row A103 ((zM n m (gx l k).1 (gx l k).2.1 (gx l k).2.2 L M).length) c104 (ci .i64 (zM n m (gx l k).1 (gx l k).2.1 (gx l k).2.2 L M)) 3 1, blk g99 [.int .i64 n, .slice A101 ((zL n m (gx l k).1 (gx l k).2.1 (gx l k).2.2 L M).length) c102, .bool (zb1 n m (gx l k).1 x.b y.b (zL n m (gx l k).1 (gx l k).2.1 (gx l k).2.2 L M))] 32, blk g88 [.int .i64 0, .slice none 0 0, .bool false] 32, blk g38 [.int .i64 n, .slice A1 L.length c1, .bool x.b] 32, blk g40 [.int .i64 m, .slice A2 M.length c2, .bool y.b] 32, many (mxE 53 74 21 62 63 g28 n L x), many (mxE 53 74 21 62 63 g33 m M y)] := H_
                    clear H_
                    obtain ⟨W107, hrun_, H_, hk_⟩ := ex_ks (P := Tryd.prog) (ty := 0) (ps := "law.go:64") (af := #[{ on := 12, ground := Go.Ground.data }, { on := 9, ground := Go.Ground.data }, { on := 13, ground := Go.Ground.chain }, { on := 0, ground := Go.Ground.phase }, { on := 1, ground := Go.Ground.phase }, { on := 2, ground := Go.Ground.phase }, { on := 3, ground := Go.Ground.phase }, { on := 4, ground := Go.Ground.phase }, { on := 5, ground := Go.Ground.phase }, { on := 6, ground := Go.Ground.phase }, { on := 7, ground := Go.Ground.phase }, { on := 8, ground := Go.Ground.phase }, { on := 9, ground := Go.Ground.phase }, { on := 10, ground := (Go.Ground.textOnly Go.Departure.lateStores) }, { on := 11, ground := Go.Ground.phase }, { on := 12, ground := Go.Ground.phase }, { on := 13, ground := Go.Ground.phase }]) (gd := none) (t := 32) (x := (Go.Operand.tmp 17)) (y := (Go.Operand.tmp 106)) (v := .agg #[.int .i64 m, .slice A103 ((zM n m (gx l k).1 (gx l k).2.1 (gx l k).2.2 L M).length) c104, .bool (zb2 n m (gx l k).1 x.b y.b (zM n m (gx l k).1 (gx l k).2.1 (gx l k).2.2 L M))]) HS 3 rfl (0) [.int .i64 m, .slice A103 ((zM n m (gx l k).1 (gx l k).2.1 (gx l k).2.2 L M).length) c104, .bool (zb2 n m (gx l k).1 x.b y.b (zM n m (gx l k).1 (gx l k).2.1 (gx l k).2.2 L M))] (by kernel_rfl) (by kernel_rfl) (by kernel_rfl) (by kernel_rfl) (one_ (by kernel_rfl)) (Nat.le_of_ble_eq_true rfl)
                    replace HK := HK.trans hk_ (fun _ h_ => .inr (Nat.le_trans hv_g88 (Nat.le_of_eq (Eq.symm h_))))
                    refine t_s (n := 1) 14 rfl (by kernel_rfl) (by kernel_rfl) hrun_ HK ?_
                    clear hk_ hrun_
                    replace HS : St W (owns []) W107 [row A101 ((zL n m (gx l k).1 (gx l k).2.1 (gx l k).2.2 L M).length) c102 (ci .i64 (zL n m (gx l k).1 (gx l k).2.1 (gx l k).2.2 L M)) 3 1, row A103 ((zM n m (gx l k).1 (gx l k).2.1 (gx l k).2.2 L M).length) c104 (ci .i64 (zM n m (gx l k).1 (gx l k).2.1 (gx l k).2.2 L M)) 3 1, blk g99 [.int .i64 n, .slice A101 ((zL n m (gx l k).1 (gx l k).2.1 (gx l k).2.2 L M).length) c102, .bool (zb1 n m (gx l k).1 x.b y.b (zL n m (gx l k).1 (gx l k).2.1 (gx l k).2.2 L M))] 32, blk g88 [.int .i64 m, .slice A103 ((zM n m (gx l k).1 (gx l k).2.1 (gx l k).2.2 L M).length) c104, .bool (zb2 n m (gx l k).1 x.b y.b (zM n m (gx l k).1 (gx l k).2.1 (gx l k).2.2 L M))] 32, blk g38 [.int .i64 n, .slice A1 L.length c1, .bool x.b] 32, blk g40 [.int .i64 m, .slice A2 M.length c2, .bool y.b] 32, many (mxE 53 74 21 62 63 g28 n L x), many (mxE 53 74 21 62 63 g33 m M y)] := H_
                    clear H_
                    refine t_q (n := 0) 15 (.bool (zB n m (gx l k).1 (gx l k).2.1 L M)) rfl (by kernel_rfl) (by kernel_rfl) (fun _ _ _ h => h) (fun w' hk => (by kernel_rfl)) HK ?_
                    refine t_done (by kernel_rfl) ?_
                    clear HV HK
                    replace HS : St W (owns []) W107 [blk g99 [.int .i64 n, .slice A101 ((zL n m (gx l k).1 (gx l k).2.1 (gx l k).2.2 L M).length) c102, .bool (zb1 n m (gx l k).1 x.b y.b (zL n m (gx l k).1 (gx l k).2.1 (gx l k).2.2 L M))] 32, blk g88 [.int .i64 m, .slice A103 ((zM n m (gx l k).1 (gx l k).2.1 (gx l k).2.2 L M).length) c104, .bool (zb2 n m (gx l k).1 x.b y.b (zM n m (gx l k).1 (gx l k).2.1 (gx l k).2.2 L M))] 32, row A101 ((zL n m (gx l k).1 (gx l k).2.1 (gx l k).2.2 L M).length) c102 (ci .i64 (zL n m (gx l k).1 (gx l k).2.1 (gx l k).2.2 L M)) 3 1, row A103 ((zM n m (gx l k).1 (gx l k).2.1 (gx l k).2.2 L M).length) c104 (ci .i64 (zM n m (gx l k).1 (gx l k).2.1 (gx l k).2.2 L M)) 3 1, blk g38 [.int .i64 n, .slice A1 L.length c1, .bool x.b] 32, blk g40 [.int .i64 m, .slice A2 M.length c2, .bool y.b] 32, many (mxE 53 74 21 62 63 g28 n L x), many (mxE 53 74 21 62 63 g33 m M y)] := St.tail (F := []) (HS.perm (perm_ [2, 3, 0, 1, 4, 5, 6, 7] (by kernel_rfl) rfl))
                    refine x_then ?_
                    exact ⟨(fun k_ : Nat => List.getD ((.int .i64 n) :: (.int .i64 m) :: (.slice (some ad50) l.length cl) :: (.int .i64 i) :: undef :: undef :: undef :: undef :: ((J44 8)) :: (.pointer (some ⟨g28, 0, none⟩)) :: (.int .i64 0) :: (.pointer (some ⟨g33, 0, none⟩)) :: (.int .i64 0) :: (.pointer (some ⟨g38, 0, none⟩)) :: (.pointer (some ⟨g40, 0, none⟩)) :: (.int .i64 k) :: (.pointer (some ⟨g99, 0, none⟩)) :: (.pointer (some ⟨g88, 0, none⟩)) :: (.bool (zB n m (gx l k).1 (gx l k).2.1 L M)) :: (.slice (some ad50) l.length cl) :: (.int .i64 (l.length : Int)) :: (.bool false) :: (.bool false) :: (.int .i64 n) :: (.bool false) :: (.bool false) :: undef :: undef :: (.bool false) :: (.bool false) :: (.bool false) :: (.int .i64 m) :: (.bool false) :: (.bool false) :: (.bool false) :: (.int .i64 m) :: (.bool false) :: (.bool false) :: undef :: (.tuple #[.pointer (some ⟨g28, 0, none⟩), .int .i64 0]) :: (.int .i64 n) :: (.tuple #[.pointer (some ⟨g28, 0, none⟩), .int .i64 0]) :: (.pointer (some ⟨g28, 0, none⟩)) :: (.int .i64 0) :: (.tuple #[.pointer (some ⟨g33, 0, none⟩), .int .i64 0]) :: (.int .i64 m) :: (.tuple #[.pointer (some ⟨g33, 0, none⟩), .int .i64 0]) :: (.pointer (some ⟨g33, 0, none⟩)) :: (.int .i64 0) :: (.int .i64 n) :: (.bool false) :: undef :: undef :: undef :: undef :: undef :: undef :: undef :: undef :: undef :: (.int .i64 n) :: (.bool false) :: undef :: undef :: undef :: undef :: undef :: undef :: undef :: undef :: undef :: (.pointer (some ⟨g28, 0, none⟩)) :: (.bool false) :: (.bool false) :: (.pointer (some ⟨g33, 0, none⟩)) :: (.bool false) :: (.bool false) :: (.bool false) :: (.int .i64 0) :: (.bool false) :: (.bool false) :: (.bool false) :: (.int .i64 0) :: (.bool false) :: (.bool false) :: (.int .i64 n) :: (.agg #[.int .i64 n, .slice none 0 0]) :: (.agg #[.int .i64 n, .slice none 0 0, .bool false]) :: (.int .i64 m) :: (.agg #[.int .i64 m, .slice none 0 0]) :: (.agg #[.int .i64 m, .slice none 0 0, .bool false]) :: (.int .i64 k) :: (.slice (some ad50) l.length cl) :: (.int .i64 (l.length : Int)) :: (.bool true) :: ((J44 95)) :: ((J44 96)) :: (.tuple #[.agg #[.int .i64 n, .slice A101 ((zL n m (gx l k).1 (gx l k).2.1 (gx l k).2.2 L M).length) c102, .bool (zb1 n m (gx l k).1 x.b y.b (zL n m (gx l k).1 (gx l k).2.1 (gx l k).2.2 L M))], .agg #[.int .i64 m, .slice A103 ((zM n m (gx l k).1 (gx l k).2.1 (gx l k).2.2 L M).length) c104, .bool (zb2 n m (gx l k).1 x.b y.b (zM n m (gx l k).1 (gx l k).2.1 (gx l k).2.2 L M))], .bool (zB n m (gx l k).1 (gx l k).2.1 L M)]) :: (.agg #[.int .i64 n, .slice A1 L.length c1, .bool x.b]) :: (.agg #[.int .i64 m, .slice A2 M.length c2, .bool y.b]) :: (.slice (some ad50) l.length cl) :: (.int .i64 k) :: (.pointer (some (ad50.add (k.toNat * 3)))) :: (.agg #[.int .i64 ((gx l k).1), .int .i64 ((gx l k).2.1), .int .i64 ((gx l k).2.2)]) :: (.tuple #[.agg #[.int .i64 n, .slice A101 ((zL n m (gx l k).1 (gx l k).2.1 (gx l k).2.2 L M).length) c102, .bool (zb1 n m (gx l k).1 x.b y.b (zL n m (gx l k).1 (gx l k).2.1 (gx l k).2.2 L M))], .agg #[.int .i64 m, .slice A103 ((zM n m (gx l k).1 (gx l k).2.1 (gx l k).2.2 L M).length) c104, .bool (zb2 n m (gx l k).1 x.b y.b (zM n m (gx l k).1 (gx l k).2.1 (gx l k).2.2 L M))], .bool (zB n m (gx l k).1 (gx l k).2.1 L M)]) :: (.agg #[.int .i64 n, .slice A101 ((zL n m (gx l k).1 (gx l k).2.1 (gx l k).2.2 L M).length) c102, .bool (zb1 n m (gx l k).1 x.b y.b (zL n m (gx l k).1 (gx l k).2.1 (gx l k).2.2 L M))]) :: (.agg #[.int .i64 m, .slice A103 ((zM n m (gx l k).1 (gx l k).2.1 (gx l k).2.2 L M).length) c104, .bool (zb2 n m (gx l k).1 x.b y.b (zM n m (gx l k).1 (gx l k).2.1 (gx l k).2.2 L M))]) :: (.bool (zB n m (gx l k).1 (gx l k).2.1 L M)) :: ((J44 108)) :: ((J44 109)) :: ((J44 110)) :: ((J44 111)) :: ((J44 112)) :: ((J44 113)) :: ((J44 114)) :: ((J44 115)) :: ((J44 116)) :: ((J44 117)) :: ((J44 118)) :: ((J44 119)) :: ((J44 120)) :: ((J44 121)) :: ((J44 122)) :: ((J44 123)) :: ((J44 124)) :: ((J44 125)) :: ((J44 126)) :: ((J44 127)) :: ((J44 128)) :: ((J44 129)) :: ((J44 130)) :: ((J44 131)) :: ((J44 132)) :: ((J44 133)) :: ((J44 134)) :: ((J44 135)) :: ((J44 136)) :: undef :: []) k_ undef), g99, g88, A101, c102, A103, c104, congrArg Fr (by kernel_rfl), HS⟩
              · clear HS
                rintro a' W108 ⟨u48, ga, gb, B1, d1, B2, d2, rfl, HS⟩
                refine wp_seq ?_
                refine wp_region_lit ?_
                refine ql (.agg #[.int .i64 n, .slice B1 ((zL n m (gx l k).1 (gx l k).2.1 (gx l k).2.2 L M).length) d1, .bool (zb1 n m (gx l k).1 x.b y.b (zL n m (gx l k).1 (gx l k).2.1 (gx l k).2.2 L M))]) (by kernel_rfl) (R_loadN (p := ⟨ga, 0, none⟩) [.int .i64 n, .slice B1 ((zL n m (gx l k).1 (gx l k).2.1 (gx l k).2.2 L M).length) d1, .bool (zb1 n m (gx l k).1 x.b y.b (zL n m (gx l k).1 (gx l k).2.1 (gx l k).2.2 L M))] (by kernel_rfl) (by kernel_rfl) (by kernel_rfl) (by kernel_rfl) (three_at (HS.cell (i := 0) (j := 0) rfl rfl) (HS.cell (i := 0) (j := 1) rfl rfl) (HS.cell (i := 0) (j := 2) rfl rfl))) ?_
                refine ks (v := .agg #[.int .i64 n, .slice B1 ((zL n m (gx l k).1 (gx l k).2.1 (gx l k).2.2 L M).length) d1, .bool (zb1 n m (gx l k).1 x.b y.b (zL n m (gx l k).1 (gx l k).2.1 (gx l k).2.2 L M))]) HS 4 rfl (0) [.int .i64 n, .slice B1 ((zL n m (gx l k).1 (gx l k).2.1 (gx l k).2.2 L M).length) d1, .bool (zb1 n m (gx l k).1 x.b y.b (zL n m (gx l k).1 (gx l k).2.1 (gx l k).2.2 L M))] (by kernel_rfl) (by kernel_rfl) (by kernel_rfl) (by kernel_rfl) (by kernel_rfl) (one_ (by kernel_rfl)) (Nat.le_of_ble_eq_true rfl) rfl ?_
                intro W109 H_
                replace HS : St W (owns []) W109 [blk ga [.int .i64 n, .slice B1 ((zL n m (gx l k).1 (gx l k).2.1 (gx l k).2.2 L M).length) d1, .bool (zb1 n m (gx l k).1 x.b y.b (zL n m (gx l k).1 (gx l k).2.1 (gx l k).2.2 L M))] 32, blk gb [.int .i64 m, .slice B2 ((zM n m (gx l k).1 (gx l k).2.1 (gx l k).2.2 L M).length) d2, .bool (zb2 n m (gx l k).1 x.b y.b (zM n m (gx l k).1 (gx l k).2.1 (gx l k).2.2 L M))] 32, row B1 ((zL n m (gx l k).1 (gx l k).2.1 (gx l k).2.2 L M).length) d1 (ci .i64 (zL n m (gx l k).1 (gx l k).2.1 (gx l k).2.2 L M)) 3 1, row B2 ((zM n m (gx l k).1 (gx l k).2.1 (gx l k).2.2 L M).length) d2 (ci .i64 (zM n m (gx l k).1 (gx l k).2.1 (gx l k).2.2 L M)) 3 1, blk g38 [.int .i64 n, .slice B1 ((zL n m (gx l k).1 (gx l k).2.1 (gx l k).2.2 L M).length) d1, .bool (zb1 n m (gx l k).1 x.b y.b (zL n m (gx l k).1 (gx l k).2.1 (gx l k).2.2 L M))] 32, blk g40 [.int .i64 m, .slice A2 M.length c2, .bool y.b] 32, many (mxE 53 74 21 62 63 g28 n L x), many (mxE 53 74 21 62 63 g33 m M y)] := H_
                clear H_
                refine wpList_nil ?_
                refine x_then ?_
                refine wp_seq ?_
                refine wp_region_lit ?_
                refine ql (.agg #[.int .i64 m, .slice B2 ((zM n m (gx l k).1 (gx l k).2.1 (gx l k).2.2 L M).length) d2, .bool (zb2 n m (gx l k).1 x.b y.b (zM n m (gx l k).1 (gx l k).2.1 (gx l k).2.2 L M))]) (by kernel_rfl) (R_loadN (p := ⟨gb, 0, none⟩) [.int .i64 m, .slice B2 ((zM n m (gx l k).1 (gx l k).2.1 (gx l k).2.2 L M).length) d2, .bool (zb2 n m (gx l k).1 x.b y.b (zM n m (gx l k).1 (gx l k).2.1 (gx l k).2.2 L M))] (by kernel_rfl) (by kernel_rfl) (by kernel_rfl) (by kernel_rfl) (three_at (HS.cell (i := 1) (j := 0) rfl rfl) (HS.cell (i := 1) (j := 1) rfl rfl) (HS.cell (i := 1) (j := 2) rfl rfl))) ?_
                refine ks (v := .agg #[.int .i64 m, .slice B2 ((zM n m (gx l k).1 (gx l k).2.1 (gx l k).2.2 L M).length) d2, .bool (zb2 n m (gx l k).1 x.b y.b (zM n m (gx l k).1 (gx l k).2.1 (gx l k).2.2 L M))]) HS 5 rfl (0) [.int .i64 m, .slice B2 ((zM n m (gx l k).1 (gx l k).2.1 (gx l k).2.2 L M).length) d2, .bool (zb2 n m (gx l k).1 x.b y.b (zM n m (gx l k).1 (gx l k).2.1 (gx l k).2.2 L M))] (by kernel_rfl) (by kernel_rfl) (by kernel_rfl) (by kernel_rfl) (by kernel_rfl) (one_ (by kernel_rfl)) (Nat.le_of_ble_eq_true rfl) rfl ?_
                intro W110 H_
                replace HS : St W (owns []) W110 [blk ga [.int .i64 n, .slice B1 ((zL n m (gx l k).1 (gx l k).2.1 (gx l k).2.2 L M).length) d1, .bool (zb1 n m (gx l k).1 x.b y.b (zL n m (gx l k).1 (gx l k).2.1 (gx l k).2.2 L M))] 32, blk gb [.int .i64 m, .slice B2 ((zM n m (gx l k).1 (gx l k).2.1 (gx l k).2.2 L M).length) d2, .bool (zb2 n m (gx l k).1 x.b y.b (zM n m (gx l k).1 (gx l k).2.1 (gx l k).2.2 L M))] 32, row B1 ((zL n m (gx l k).1 (gx l k).2.1 (gx l k).2.2 L M).length) d1 (ci .i64 (zL n m (gx l k).1 (gx l k).2.1 (gx l k).2.2 L M)) 3 1, row B2 ((zM n m (gx l k).1 (gx l k).2.1 (gx l k).2.2 L M).length) d2 (ci .i64 (zM n m (gx l k).1 (gx l k).2.1 (gx l k).2.2 L M)) 3 1, blk g38 [.int .i64 n, .slice B1 ((zL n m (gx l k).1 (gx l k).2.1 (gx l k).2.2 L M).length) d1, .bool (zb1 n m (gx l k).1 x.b y.b (zL n m (gx l k).1 (gx l k).2.1 (gx l k).2.2 L M))] 32, blk g40 [.int .i64 m, .slice B2 ((zM n m (gx l k).1 (gx l k).2.1 (gx l k).2.2 L M).length) d2, .bool (zb2 n m (gx l k).1 x.b y.b (zM n m (gx l k).1 (gx l k).2.1 (gx l k).2.2 L M))] 32, many (mxE 53 74 21 62 63 g28 n L x), many (mxE 53 74 21 62 63 g33 m M y)] := H_
                clear H_
                refine wpList_nil ?_
                refine x_then ?_
                refine wp_seq ?_
                replace HS : St W (owns []) W110 [many (mxE 53 74 21 62 63 g28 n L x), many (mxE 53 74 21 62 63 g33 m M y), blk ga [.int .i64 n, .slice B1 ((zL n m (gx l k).1 (gx l k).2.1 (gx l k).2.2 L M).length) d1, .bool (zb1 n m (gx l k).1 x.b y.b (zL n m (gx l k).1 (gx l k).2.1 (gx l k).2.2 L M))] 32, blk gb [.int .i64 m, .slice B2 ((zM n m (gx l k).1 (gx l k).2.1 (gx l k).2.2 L M).length) d2, .bool (zb2 n m (gx l k).1 x.b y.b (zM n m (gx l k).1 (gx l k).2.1 (gx l k).2.2 L M))] 32, row B1 ((zL n m (gx l k).1 (gx l k).2.1 (gx l k).2.2 L M).length) d1 (ci .i64 (zL n m (gx l k).1 (gx l k).2.1 (gx l k).2.2 L M)) 3 1, row B2 ((zM n m (gx l k).1 (gx l k).2.1 (gx l k).2.2 L M).length) d2 (ci .i64 (zM n m (gx l k).1 (gx l k).2.1 (gx l k).2.2 L M)) 3 1, blk g38 [.int .i64 n, .slice B1 ((zL n m (gx l k).1 (gx l k).2.1 (gx l k).2.2 L M).length) d1, .bool (zb1 n m (gx l k).1 x.b y.b (zL n m (gx l k).1 (gx l k).2.1 (gx l k).2.2 L M))] 32, blk g40 [.int .i64 m, .slice B2 ((zM n m (gx l k).1 (gx l k).2.1 (gx l k).2.2 L M).length) d2, .bool (zb2 n m (gx l k).1 x.b y.b (zM n m (gx l k).1 (gx l k).2.1 (gx l k).2.2 L M))] 32] := HS.perm (perm_ [6, 7, 0, 1, 2, 3, 4, 5] (by kernel_rfl) rfl)
                refine t_start HS (fun k_ => (many (mxE 53 74 21 62 63 g28 n L x)).own k_ ∨ (many (mxE 53 74 21 62 63 g33 m M y)).own k_) 27 (by kernel_rfl) rfl ?_
                intro W111 H_ HD_
                clear HD_
                replace HS : St W (owns []) W111 [many (mxE 53 74 21 62 63 g28 n L x), many (mxE 53 74 21 62 63 g33 m M y), blk ga [.int .i64 n, .slice B1 ((zL n m (gx l k).1 (gx l k).2.1 (gx l k).2.2 L M).length) d1, .bool (zb1 n m (gx l k).1 x.b y.b (zL n m (gx l k).1 (gx l k).2.1 (gx l k).2.2 L M))] 32, blk gb [.int .i64 m, .slice B2 ((zM n m (gx l k).1 (gx l k).2.1 (gx l k).2.2 L M).length) d2, .bool (zb2 n m (gx l k).1 x.b y.b (zM n m (gx l k).1 (gx l k).2.1 (gx l k).2.2 L M))] 32, row B1 ((zL n m (gx l k).1 (gx l k).2.1 (gx l k).2.2 L M).length) d1 (ci .i64 (zL n m (gx l k).1 (gx l k).2.1 (gx l k).2.2 L M)) 3 1, row B2 ((zM n m (gx l k).1 (gx l k).2.1 (gx l k).2.2 L M).length) d2 (ci .i64 (zM n m (gx l k).1 (gx l k).2.1 (gx l k).2.2 L M)) 3 1, blk g38 [.int .i64 n, .slice B1 ((zL n m (gx l k).1 (gx l k).2.1 (gx l k).2.2 L M).length) d1, .bool (zb1 n m (gx l k).1 x.b y.b (zL n m (gx l k).1 (gx l k).2.1 (gx l k).2.2 L M))] 32, blk g40 [.int .i64 m, .slice B2 ((zM n m (gx l k).1 (gx l k).2.1 (gx l k).2.2 L M).length) d2, .bool (zb2 n m (gx l k).1 x.b y.b (zM n m (gx l k).1 (gx l k).2.1 (gx l k).2.2 L M))] 32] := H_
                clear H_
                have HV := HS
                have HK := Kpt.refl (fun k_ => (many (mxE 53 74 21 62 63 g28 n L x)).own k_ ∨ (many (mxE 53 74 21 62 63 g33 m M y)).own k_) W111
                refine t_q (n := 26) 0 (.pointer (some ⟨g28, 0, none⟩)) rfl (by kernel_rfl) (by kernel_rfl) (fun _ _ _ h => h) (fun w' hk => (by kernel_rfl)) HK ?_
                refine t_q (n := 25) 1 (.pointer (some ⟨g33, 0, none⟩)) rfl (by kernel_rfl) (by kernel_rfl) (fun _ _ _ h => h) (fun w' hk => (by kernel_rfl)) HK ?_
                refine t_q (n := 24) 2 (.slice Al l.length cl) rfl (by kernel_rfl) (by kernel_rfl) (fun _ _ _ h => h) (fun w' hk => (by kernel_rfl)) HK ?_
                refine t_q (n := 23) 3 (.int .i64 k) rfl (by kernel_rfl) (by kernel_rfl) (fun _ _ _ h => h) (fun w' hk => (by kernel_rfl)) HK ?_
                obtain ⟨ad112, rfl⟩ := Rd.isSome_ hra (by rw [cf_len (z := 3) (fun _ => rfl)]; omega)
                refine t_q (n := 22) 4 (.pointer (some (ad112.add (k.toNat * 3)))) rfl (by kernel_rfl) (by kernel_rfl) (fun _ _ _ h => h) (fun w' hk => (R_indexA (k := .i64) (p := ad112) (n := l.length) (c := cl) (i := k) (by kernel_rfl) (by kernel_rfl) Tryd.underlying22 (by kernel_rfl) (by omega) (by omega))) HK ?_
                refine t_q (n := 21) 5 (.agg #[.int .i64 ((gx l k).1), .int .i64 ((gx l k).2.1), .int .i64 ((gx l k).2.2)]) rfl (by kernel_rfl) (by kernel_rfl) (fun _ _ _ h => h) (fun w' hk => (R_loadN (p := ad112.add (k.toNat * 3)) [.int .i64 ((gx l k).1), .int .i64 ((gx l k).2.1), .int .i64 ((gx l k).2.2)] (by kernel_rfl) (by kernel_rfl) (by kernel_rfl) (by kernel_rfl) (fun j_ v_ hv_ => (hk.cellN (fun h_ => h_.elim (HV.oldSep (i := 0) rfl ((Rd.elem (f := actM) (fun _ => rfl) hra (gx_eq (by omega) (by omega))) j_ v_ hv_)) (HV.oldSep (i := 1) rfl ((Rd.elem (f := actM) (fun _ => rfl) hra (gx_eq (by omega) (by omega))) j_ v_ hv_))) (HV.old0 ((Rd.elem (f := actM) (fun _ => rfl) hra (gx_eq (by omega) (by omega))) j_ v_ hv_)))))) HK ?_
                refine t_q (n := 20) 7 (.bool (zB n m (gx l k).1 (gx l k).2.1 L M)) rfl (by kernel_rfl) (by kernel_rfl) (fun _ _ _ h => h) (fun w' hk => (by kernel_rfl)) HK ?_
                refine t_c (n := 19) 6 (f := 8) (args := #[.pointer (some ⟨g28, 0, none⟩), .pointer (some ⟨g33, 0, none⟩), .agg #[.int .i64 ((gx l k).1), .int .i64 ((gx l k).2.1), .int .i64 ((gx l k).2.2)]]) rfl (by kernel_rfl) (by kernel_rfl) (R_call #[.pointer (some ⟨g28, 0, none⟩), .pointer (some ⟨g33, 0, none⟩), .agg #[.int .i64 ((gx l k).1), .int .i64 ((gx l k).2.1), .int .i64 ((gx l k).2.2)]] Tryd.func8 (by kernel_rfl) (by kernel_rfl) (by kernel_rfl)) ?_
                refine (mdoes g28 g33 n m L M x y (gx l k).1 (gx l k).2.1 (gx l k).2.2 _ _ (St.focus (F := [many (mxE 53 74 21 62 63 g28 n L x), many (mxE 53 74 21 62 63 g33 m M y)]) HS) hok hok2 (by omega) (by omega) (by omega) (by omega)).mono ?_
                rintro e W113 ⟨x9, y9, rfl, H_, hok9, hoky9, hbx, hby⟩
                have hkf_ : ∀ k_, owns [many (mxE 53 74 21 62 63 g28 n L x), many (mxE 53 74 21 62 63 g33 m M y)] k_ → (many (mxE 53 74 21 62 63 g28 n L x)).own k_ ∨ (many (mxE 53 74 21 62 63 g33 m M y)).own k_ := by
                  intro k_ h_; obtain ⟨e_, he_, ho_⟩ := h_; simp only [List.mem_cons, List.not_mem_nil, or_false] at he_; rcases he_ with rfl | rfl <;> first | exact (.inl ho_) | exact (.inr ho_)
                refine ⟨_, rfl, HK.trans H_.kept (fun _ h_ => .inl (hkf_ _ h_)), ?_⟩
                replace HK := HK.trans H_.kept (fun _ h_ => .inl (hkf_ _ h_))
                replace HS : St W (owns []) W113 [many (mxE 53 74 21 62 63 g28 n (zL n m (gx l k).1 (gx l k).2.1 (gx l k).2.2 L M) x9), many (mxE 53 74 21 62 63 g33 m (zM n m (gx l k).1 (gx l k).2.1 (gx l k).2.2 L M) y9), blk ga [.int .i64 n, .slice B1 ((zL n m (gx l k).1 (gx l k).2.1 (gx l k).2.2 L M).length) d1, .bool (zb1 n m (gx l k).1 x.b y.b (zL n m (gx l k).1 (gx l k).2.1 (gx l k).2.2 L M))] 32, blk gb [.int .i64 m, .slice B2 ((zM n m (gx l k).1 (gx l k).2.1 (gx l k).2.2 L M).length) d2, .bool (zb2 n m (gx l k).1 x.b y.b (zM n m (gx l k).1 (gx l k).2.1 (gx l k).2.2 L M))] 32, row B1 ((zL n m (gx l k).1 (gx l k).2.1 (gx l k).2.2 L M).length) d1 (ci .i64 (zL n m (gx l k).1 (gx l k).2.1 (gx l k).2.2 L M)) 3 1, row B2 ((zM n m (gx l k).1 (gx l k).2.1 (gx l k).2.2 L M).length) d2 (ci .i64 (zM n m (gx l k).1 (gx l k).2.1 (gx l k).2.2 L M)) 3 1, blk g38 [.int .i64 n, .slice B1 ((zL n m (gx l k).1 (gx l k).2.1 (gx l k).2.2 L M).length) d1, .bool (zb1 n m (gx l k).1 x.b y.b (zL n m (gx l k).1 (gx l k).2.1 (gx l k).2.2 L M))] 32, blk g40 [.int .i64 m, .slice B2 ((zM n m (gx l k).1 (gx l k).2.1 (gx l k).2.2 L M).length) d2, .bool (zb2 n m (gx l k).1 x.b y.b (zM n m (gx l k).1 (gx l k).2.1 (gx l k).2.2 L M))] 32] := HS.join (F := [many (mxE 53 74 21 62 63 g28 n L x), many (mxE 53 74 21 62 63 g33 m M y)]) (G := [many (mxE 53 74 21 62 63 g28 n (zL n m (gx l k).1 (gx l k).2.1 (gx l k).2.2 L M) x9), many (mxE 53 74 21 62 63 g33 m (zM n m (gx l k).1 (gx l k).2.1 (gx l k).2.2 L M) y9)]) H_
                clear H_
                have hlA := hok9.len (by omega)
                have hlB := hoky9.len (by omega)
                refine t_q (n := 18) 8 (.bool false) rfl (by kernel_rfl) (by kernel_rfl) (fun _ _ _ h => h) (fun w' hk => (R_beq (b := ((zB n m (gx l k).1 (gx l k).2.1 L M) != (zB n m (gx l k).1 (gx l k).2.1 L M))) (by kernel_rfl) (bne_same _))) HK ?_
                refine t_q (n := 17) 9 (.bool false) rfl (by kernel_rfl) (by kernel_rfl) (fun _ _ _ h => h) (fun w' hk => (by kernel_rfl)) HK ?_
                refine t_q (n := 16) 10 (.pointer (some ⟨g28, 0, none⟩)) rfl (by kernel_rfl) (by kernel_rfl) (fun _ _ _ h => h) (fun w' hk => (by kernel_rfl)) HK ?_
                refine t_q (n := 15) 11 (.agg #[.int .i64 n, .slice B1 ((zL n m (gx l k).1 (gx l k).2.1 (gx l k).2.2 L M).length) d1, .bool (zb1 n m (gx l k).1 x.b y.b (zL n m (gx l k).1 (gx l k).2.1 (gx l k).2.2 L M))]) rfl (by kernel_rfl) (by kernel_rfl) (fun _ _ _ h => h) (fun w' hk => (R_loadN (p := ⟨g38, 0, none⟩) [.int .i64 n, .slice B1 ((zL n m (gx l k).1 (gx l k).2.1 (gx l k).2.2 L M).length) d1, .bool (zb1 n m (gx l k).1 x.b y.b (zL n m (gx l k).1 (gx l k).2.1 (gx l k).2.2 L M))] (by kernel_rfl) (by kernel_rfl) (by kernel_rfl) (by kernel_rfl) (three_at (hk.cellN (fun h_ => h_.elim (HV.sepB (a := 6) (b := 0) (by decide) rfl rfl) (HV.sepB (a := 6) (b := 1) (by decide) rfl rfl)) (HV.cell (i := 6) (j := 0) rfl rfl)) (hk.cellN (fun h_ => h_.elim (HV.sepB (a := 6) (b := 0) (by decide) rfl rfl) (HV.sepB (a := 6) (b := 1) (by decide) rfl rfl)) (HV.cell (i := 6) (j := 1) rfl rfl)) (hk.cellN (fun h_ => h_.elim (HV.sepB (a := 6) (b := 0) (by decide) rfl rfl) (HV.sepB (a := 6) (b := 1) (by decide) rfl rfl)) (HV.cell (i := 6) (j := 2) rfl rfl))))) HK ?_
                refine t_q (n := 14) 12 (.int .i64 i) rfl (by kernel_rfl) (by kernel_rfl) (fun _ _ _ h => h) (fun w' hk => (by kernel_rfl)) HK ?_
                refine t_c (n := 13) 13 (f := 9) (args := #[.pointer (some ⟨g28, 0, none⟩), .agg #[.int .i64 n, .slice B1 ((zL n m (gx l k).1 (gx l k).2.1 (gx l k).2.2 L M).length) d1, .bool (zb1 n m (gx l k).1 x.b y.b (zL n m (gx l k).1 (gx l k).2.1 (gx l k).2.2 L M))], .int .i64 i]) rfl (by kernel_rfl) (by kernel_rfl) (R_call #[.pointer (some ⟨g28, 0, none⟩), .agg #[.int .i64 n, .slice B1 ((zL n m (gx l k).1 (gx l k).2.1 (gx l k).2.2 L M).length) d1, .bool (zb1 n m (gx l k).1 x.b y.b (zL n m (gx l k).1 (gx l k).2.1 (gx l k).2.2 L M))], .int .i64 i] Tryd.func9 (by kernel_rfl) (by kernel_rfl) (by kernel_rfl)) ?_
                refine (mtells2 g28 n (zL n m (gx l k).1 (gx l k).2.1 (gx l k).2.2 L M) x9 (zb1 n m (gx l k).1 x.b y.b (zL n m (gx l k).1 (gx l k).2.1 (gx l k).2.2 L M)) B1 d1 i _ (HS.hasP (i := 0) rfl) hok9 (by omega) (by omega) (hT.old0 HS) (Rd.row HS (i := 4) rfl) (by omega) hbx).mono ?_
                rintro e W114 ⟨rfl, H_⟩
                refine ⟨_, rfl, HK.tr H_.kept.nil, ?_⟩
                replace HK := HK.tr H_.kept.nil
                replace HS : St W (owns []) W114 [many (mxE 53 74 21 62 63 g28 n (zL n m (gx l k).1 (gx l k).2.1 (gx l k).2.2 L M) x9), many (mxE 53 74 21 62 63 g33 m (zM n m (gx l k).1 (gx l k).2.1 (gx l k).2.2 L M) y9), blk ga [.int .i64 n, .slice B1 ((zL n m (gx l k).1 (gx l k).2.1 (gx l k).2.2 L M).length) d1, .bool (zb1 n m (gx l k).1 x.b y.b (zL n m (gx l k).1 (gx l k).2.1 (gx l k).2.2 L M))] 32, blk gb [.int .i64 m, .slice B2 ((zM n m (gx l k).1 (gx l k).2.1 (gx l k).2.2 L M).length) d2, .bool (zb2 n m (gx l k).1 x.b y.b (zM n m (gx l k).1 (gx l k).2.1 (gx l k).2.2 L M))] 32, row B1 ((zL n m (gx l k).1 (gx l k).2.1 (gx l k).2.2 L M).length) d1 (ci .i64 (zL n m (gx l k).1 (gx l k).2.1 (gx l k).2.2 L M)) 3 1, row B2 ((zM n m (gx l k).1 (gx l k).2.1 (gx l k).2.2 L M).length) d2 (ci .i64 (zM n m (gx l k).1 (gx l k).2.1 (gx l k).2.2 L M)) 3 1, blk g38 [.int .i64 n, .slice B1 ((zL n m (gx l k).1 (gx l k).2.1 (gx l k).2.2 L M).length) d1, .bool (zb1 n m (gx l k).1 x.b y.b (zL n m (gx l k).1 (gx l k).2.1 (gx l k).2.2 L M))] 32, blk g40 [.int .i64 m, .slice B2 ((zM n m (gx l k).1 (gx l k).2.1 (gx l k).2.2 L M).length) d2, .bool (zb2 n m (gx l k).1 x.b y.b (zM n m (gx l k).1 (gx l k).2.1 (gx l k).2.2 L M))] 32] := HS.join (F := []) (G := []) H_
                clear H_
                refine t_q (n := 12) 14 (.bool false) rfl (by kernel_rfl) (by kernel_rfl) (fun _ _ _ h => h) (fun w' hk => (by kernel_rfl)) HK ?_
                refine t_q (n := 11) 15 (.bool false) rfl (by kernel_rfl) (by kernel_rfl) (fun _ _ _ h => h) (fun w' hk => (by kernel_rfl)) HK ?_
                refine t_q (n := 10) 16 (.bool false) rfl (by kernel_rfl) (by kernel_rfl) (fun _ _ _ h => h) (fun w' hk => (by kernel_rfl)) HK ?_
                refine t_q (n := 9) 17 (.pointer (some ⟨g33, 0, none⟩)) rfl (by kernel_rfl) (by kernel_rfl) (fun _ _ _ h => h) (fun w' hk => (by kernel_rfl)) HK ?_
                refine t_q (n := 8) 18 (.agg #[.int .i64 m, .slice B2 ((zM n m (gx l k).1 (gx l k).2.1 (gx l k).2.2 L M).length) d2, .bool (zb2 n m (gx l k).1 x.b y.b (zM n m (gx l k).1 (gx l k).2.1 (gx l k).2.2 L M))]) rfl (by kernel_rfl) (by kernel_rfl) (fun _ _ _ h => h) (fun w' hk => (R_loadN (p := ⟨g40, 0, none⟩) [.int .i64 m, .slice B2 ((zM n m (gx l k).1 (gx l k).2.1 (gx l k).2.2 L M).length) d2, .bool (zb2 n m (gx l k).1 x.b y.b (zM n m (gx l k).1 (gx l k).2.1 (gx l k).2.2 L M))] (by kernel_rfl) (by kernel_rfl) (by kernel_rfl) (by kernel_rfl) (three_at (hk.cellN (fun h_ => h_.elim (HV.sepB (a := 7) (b := 0) (by decide) rfl rfl) (HV.sepB (a := 7) (b := 1) (by decide) rfl rfl)) (HV.cell (i := 7) (j := 0) rfl rfl)) (hk.cellN (fun h_ => h_.elim (HV.sepB (a := 7) (b := 0) (by decide) rfl rfl) (HV.sepB (a := 7) (b := 1) (by decide) rfl rfl)) (HV.cell (i := 7) (j := 1) rfl rfl)) (hk.cellN (fun h_ => h_.elim (HV.sepB (a := 7) (b := 0) (by decide) rfl rfl) (HV.sepB (a := 7) (b := 1) (by decide) rfl rfl)) (HV.cell (i := 7) (j := 2) rfl rfl))))) HK ?_
                refine t_q (n := 7) 19 (.slice (some ad112) l.length cl) rfl (by kernel_rfl) (by kernel_rfl) (fun _ _ _ h => h) (fun w' hk => (by kernel_rfl)) HK ?_
                refine t_q (n := 6) 20 (.int .i64 k) rfl (by kernel_rfl) (by kernel_rfl) (fun _ _ _ h => h) (fun w' hk => (by kernel_rfl)) HK ?_
                refine t_q (n := 5) 21 (.pointer (some (ad112.add (k.toNat * 3)))) rfl (by kernel_rfl) (by kernel_rfl) (fun _ _ _ h => h) (fun w' hk => (R_indexA (k := .i64) (p := ad112) (n := l.length) (c := cl) (i := k) (by kernel_rfl) (by kernel_rfl) Tryd.underlying22 (by kernel_rfl) (by omega) (by omega))) HK ?_
                refine t_q (n := 4) 22 (.pointer (some ((ad112.add (k.toNat * 3)).add 1))) rfl (by kernel_rfl) (by kernel_rfl) (fun _ _ _ h => h) (fun w' hk => (by kernel_rfl)) HK ?_
                refine t_q (n := 3) 23 (.int .i64 ((gx l k).2.1)) rfl (by kernel_rfl) (by kernel_rfl) (fun _ _ _ h => h) (fun w' hk => (R_load (p := (ad112.add (k.toNat * 3)).add 1) (by kernel_rfl) (by kernel_rfl) (by kernel_rfl) (hk.cellN (fun h_ => h_.elim (HV.oldSep (i := 0) rfl (Rd.elem1 (k := 1) (f := actM) (fun _ => rfl) hra (gx_eq (by omega) (by omega)) rfl)) (HV.oldSep (i := 1) rfl (Rd.elem1 (k := 1) (f := actM) (fun _ => rfl) hra (gx_eq (by omega) (by omega)) rfl))) (HV.old0 (Rd.elem1 (k := 1) (f := actM) (fun _ => rfl) hra (gx_eq (by omega) (by omega)) rfl))))) HK ?_
                refine t_c (n := 2) 24 (f := 9) (args := #[.pointer (some ⟨g33, 0, none⟩), .agg #[.int .i64 m, .slice B2 ((zM n m (gx l k).1 (gx l k).2.1 (gx l k).2.2 L M).length) d2, .bool (zb2 n m (gx l k).1 x.b y.b (zM n m (gx l k).1 (gx l k).2.1 (gx l k).2.2 L M))], .int .i64 ((gx l k).2.1)]) rfl (by kernel_rfl) (by kernel_rfl) (R_call #[.pointer (some ⟨g33, 0, none⟩), .agg #[.int .i64 m, .slice B2 ((zM n m (gx l k).1 (gx l k).2.1 (gx l k).2.2 L M).length) d2, .bool (zb2 n m (gx l k).1 x.b y.b (zM n m (gx l k).1 (gx l k).2.1 (gx l k).2.2 L M))], .int .i64 ((gx l k).2.1)] Tryd.func9 (by kernel_rfl) (by kernel_rfl) (by kernel_rfl)) ?_
                refine (mtells2 g33 m (zM n m (gx l k).1 (gx l k).2.1 (gx l k).2.2 L M) y9 (zb2 n m (gx l k).1 x.b y.b (zM n m (gx l k).1 (gx l k).2.1 (gx l k).2.2 L M)) B2 d2 ((gx l k).2.1) _ (HS.hasP (i := 1) rfl) hoky9 (by omega) (by omega) (hT.old0 HS) (Rd.row HS (i := 5) rfl) (by omega) hby).mono ?_
                rintro e W115 ⟨rfl, H_⟩
                refine ⟨_, rfl, HK.tr H_.kept.nil, ?_⟩
                replace HK := HK.tr H_.kept.nil
                replace HS : St W (owns []) W115 [many (mxE 53 74 21 62 63 g28 n (zL n m (gx l k).1 (gx l k).2.1 (gx l k).2.2 L M) x9), many (mxE 53 74 21 62 63 g33 m (zM n m (gx l k).1 (gx l k).2.1 (gx l k).2.2 L M) y9), blk ga [.int .i64 n, .slice B1 ((zL n m (gx l k).1 (gx l k).2.1 (gx l k).2.2 L M).length) d1, .bool (zb1 n m (gx l k).1 x.b y.b (zL n m (gx l k).1 (gx l k).2.1 (gx l k).2.2 L M))] 32, blk gb [.int .i64 m, .slice B2 ((zM n m (gx l k).1 (gx l k).2.1 (gx l k).2.2 L M).length) d2, .bool (zb2 n m (gx l k).1 x.b y.b (zM n m (gx l k).1 (gx l k).2.1 (gx l k).2.2 L M))] 32, row B1 ((zL n m (gx l k).1 (gx l k).2.1 (gx l k).2.2 L M).length) d1 (ci .i64 (zL n m (gx l k).1 (gx l k).2.1 (gx l k).2.2 L M)) 3 1, row B2 ((zM n m (gx l k).1 (gx l k).2.1 (gx l k).2.2 L M).length) d2 (ci .i64 (zM n m (gx l k).1 (gx l k).2.1 (gx l k).2.2 L M)) 3 1, blk g38 [.int .i64 n, .slice B1 ((zL n m (gx l k).1 (gx l k).2.1 (gx l k).2.2 L M).length) d1, .bool (zb1 n m (gx l k).1 x.b y.b (zL n m (gx l k).1 (gx l k).2.1 (gx l k).2.2 L M))] 32, blk g40 [.int .i64 m, .slice B2 ((zM n m (gx l k).1 (gx l k).2.1 (gx l k).2.2 L M).length) d2, .bool (zb2 n m (gx l k).1 x.b y.b (zM n m (gx l k).1 (gx l k).2.1 (gx l k).2.2 L M))] 32] := HS.join (F := []) (G := []) H_
                clear H_
                refine t_q (n := 1) 25 (.bool false) rfl (by kernel_rfl) (by kernel_rfl) (fun _ _ _ h => h) (fun w' hk => (by kernel_rfl)) HK ?_
                refine t_q (n := 0) 26 (.bool false) rfl (by kernel_rfl) (by kernel_rfl) (fun _ _ _ h => h) (fun w' hk => (by kernel_rfl)) HK ?_
                refine t_done (by kernel_rfl) ?_
                clear HV HK
                refine x_then ?_
                refine wp_cond_false (by kernel_rfl) ?_
                refine wp_skip ?_
                refine x_inb ?_
                refine x_then ?_
                refine wp_region_lit ?_
                refine ql (.int .i64 k) (by kernel_rfl) (by kernel_rfl) ?_
                refine ql (.int .i64 (k + 1)) (by kernel_rfl) (R_int (by kernel_rfl) (w64 (by omega))) ?_
                refine ql (.int .i64 (k + 1)) (by kernel_rfl) (by kernel_rfl) ?_
                refine wpList_nil ?_
                replace HS : St W (owns []) W115 [blk g38 [.int .i64 n, .slice B1 ((zL n m (gx l k).1 (gx l k).2.1 (gx l k).2.2 L M).length) d1, .bool (zb1 n m (gx l k).1 x.b y.b (zL n m (gx l k).1 (gx l k).2.1 (gx l k).2.2 L M))] 32, row B1 ((zL n m (gx l k).1 (gx l k).2.1 (gx l k).2.2 L M).length) d1 (ci .i64 (zL n m (gx l k).1 (gx l k).2.1 (gx l k).2.2 L M)) 3 1, blk g40 [.int .i64 m, .slice B2 ((zM n m (gx l k).1 (gx l k).2.1 (gx l k).2.2 L M).length) d2, .bool (zb2 n m (gx l k).1 x.b y.b (zM n m (gx l k).1 (gx l k).2.1 (gx l k).2.2 L M))] 32, row B2 ((zM n m (gx l k).1 (gx l k).2.1 (gx l k).2.2 L M).length) d2 (ci .i64 (zM n m (gx l k).1 (gx l k).2.1 (gx l k).2.2 L M)) 3 1, many (mxE 53 74 21 62 63 g28 n (zL n m (gx l k).1 (gx l k).2.1 (gx l k).2.2 L M) x9), many (mxE 53 74 21 62 63 g33 m (zM n m (gx l k).1 (gx l k).2.1 (gx l k).2.2 L M) y9)] := St.tail (F := [blk ga [.int .i64 n, .slice B1 ((zL n m (gx l k).1 (gx l k).2.1 (gx l k).2.2 L M).length) d1, .bool (zb1 n m (gx l k).1 x.b y.b (zL n m (gx l k).1 (gx l k).2.1 (gx l k).2.2 L M))] 32, blk gb [.int .i64 m, .slice B2 ((zM n m (gx l k).1 (gx l k).2.1 (gx l k).2.2 L M).length) d2, .bool (zb2 n m (gx l k).1 x.b y.b (zM n m (gx l k).1 (gx l k).2.1 (gx l k).2.2 L M))] 32]) (HS.perm (perm_ [2, 3, 6, 4, 7, 5, 0, 1] (by kernel_rfl) rfl))
                replace HS : St W (owns []) W115 [blk g38 [.int .i64 n, .slice B1 ((zL n m (gx l k).1 (gx l k).2.1 (gx l k).2.2 L M).length) d1, .bool x9.b] 32, row B1 ((zL n m (gx l k).1 (gx l k).2.1 (gx l k).2.2 L M).length) d1 (ci .i64 (zL n m (gx l k).1 (gx l k).2.1 (gx l k).2.2 L M)) 3 1, blk g40 [.int .i64 m, .slice B2 ((zM n m (gx l k).1 (gx l k).2.1 (gx l k).2.2 L M).length) d2, .bool y9.b] 32, row B2 ((zM n m (gx l k).1 (gx l k).2.1 (gx l k).2.2 L M).length) d2 (ci .i64 (zM n m (gx l k).1 (gx l k).2.1 (gx l k).2.2 L M)) 3 1, many (mxE 53 74 21 62 63 g28 n (zL n m (gx l k).1 (gx l k).2.1 (gx l k).2.2 L M) x9), many (mxE 53 74 21 62 63 g33 m (zM n m (gx l k).1 (gx l k).2.1 (gx l k).2.2 L M) y9)] := by rw [hbx, hby]; exact HS
                refine x_then ?_
                exact ⟨l.length - (k + 1).toNat, by omega, (fun k_ : Nat => List.getD ((.int .i64 n) :: (.int .i64 m) :: (.slice (some ad112) l.length cl) :: (.int .i64 i) :: undef :: undef :: undef :: undef :: ((J44 8)) :: (.pointer (some ⟨g28, 0, none⟩)) :: (.int .i64 0) :: (.pointer (some ⟨g33, 0, none⟩)) :: (.int .i64 0) :: (.pointer (some ⟨g38, 0, none⟩)) :: (.pointer (some ⟨g40, 0, none⟩)) :: (.int .i64 (k + 1)) :: (.pointer (some ⟨ga, 0, none⟩)) :: (.pointer (some ⟨gb, 0, none⟩)) :: (.bool (zB n m (gx l k).1 (gx l k).2.1 L M)) :: (.slice (some ad112) l.length cl) :: (.int .i64 (l.length : Int)) :: (.bool false) :: (.bool false) :: (.int .i64 n) :: (.bool false) :: (.bool false) :: undef :: undef :: (.bool false) :: (.bool false) :: (.bool false) :: (.int .i64 m) :: (.bool false) :: (.bool false) :: (.bool false) :: (.int .i64 m) :: (.bool false) :: (.bool false) :: undef :: (.tuple #[.pointer (some ⟨g28, 0, none⟩), .int .i64 0]) :: (.int .i64 n) :: (.tuple #[.pointer (some ⟨g28, 0, none⟩), .int .i64 0]) :: (.pointer (some ⟨g28, 0, none⟩)) :: (.int .i64 0) :: (.tuple #[.pointer (some ⟨g33, 0, none⟩), .int .i64 0]) :: (.int .i64 m) :: (.tuple #[.pointer (some ⟨g33, 0, none⟩), .int .i64 0]) :: (.pointer (some ⟨g33, 0, none⟩)) :: (.int .i64 0) :: (.int .i64 n) :: (.bool false) :: undef :: undef :: undef :: undef :: undef :: undef :: undef :: undef :: undef :: (.int .i64 n) :: (.bool false) :: undef :: undef :: undef :: undef :: undef :: undef :: undef :: undef :: undef :: (.pointer (some ⟨g28, 0, none⟩)) :: (.bool false) :: (.bool false) :: (.pointer (some ⟨g33, 0, none⟩)) :: (.bool false) :: (.bool false) :: (.bool false) :: (.int .i64 0) :: (.bool false) :: (.bool false) :: (.bool false) :: (.int .i64 0) :: (.bool false) :: (.bool false) :: (.int .i64 n) :: (.agg #[.int .i64 n, .slice none 0 0]) :: (.agg #[.int .i64 n, .slice none 0 0, .bool false]) :: (.int .i64 m) :: (.agg #[.int .i64 m, .slice none 0 0]) :: (.agg #[.int .i64 m, .slice none 0 0, .bool false]) :: (.int .i64 k) :: (.slice (some ad112) l.length cl) :: (.int .i64 (l.length : Int)) :: (.bool true) :: (.int .i64 k) :: (.int .i64 (k + 1)) :: ((u48 97)) :: ((u48 98)) :: ((u48 99)) :: ((u48 100)) :: ((u48 101)) :: ((u48 102)) :: ((u48 103)) :: ((u48 104)) :: ((u48 105)) :: ((u48 106)) :: ((u48 107)) :: (.agg #[.int .i64 n, .slice B1 ((zL n m (gx l k).1 (gx l k).2.1 (gx l k).2.2 L M).length) d1, .bool (zb1 n m (gx l k).1 x.b y.b (zL n m (gx l k).1 (gx l k).2.1 (gx l k).2.2 L M))]) :: (.agg #[.int .i64 m, .slice B2 ((zM n m (gx l k).1 (gx l k).2.1 (gx l k).2.2 L M).length) d2, .bool (zb2 n m (gx l k).1 x.b y.b (zM n m (gx l k).1 (gx l k).2.1 (gx l k).2.2 L M))]) :: (.pointer (some ⟨g28, 0, none⟩)) :: (.pointer (some ⟨g33, 0, none⟩)) :: (.slice (some ad112) l.length cl) :: (.int .i64 k) :: (.pointer (some (ad112.add (k.toNat * 3)))) :: (.agg #[.int .i64 ((gx l k).1), .int .i64 ((gx l k).2.1), .int .i64 ((gx l k).2.2)]) :: (.bool (zB n m (gx l k).1 (gx l k).2.1 L M)) :: (.bool (zB n m (gx l k).1 (gx l k).2.1 L M)) :: (.bool false) :: (.bool false) :: (.pointer (some ⟨g28, 0, none⟩)) :: (.agg #[.int .i64 n, .slice B1 ((zL n m (gx l k).1 (gx l k).2.1 (gx l k).2.2 L M).length) d1, .bool (zb1 n m (gx l k).1 x.b y.b (zL n m (gx l k).1 (gx l k).2.1 (gx l k).2.2 L M))]) :: (.int .i64 i) :: (.bool true) :: (.bool false) :: (.bool false) :: (.bool false) :: (.pointer (some ⟨g33, 0, none⟩)) :: (.agg #[.int .i64 m, .slice B2 ((zM n m (gx l k).1 (gx l k).2.1 (gx l k).2.2 L M).length) d2, .bool (zb2 n m (gx l k).1 x.b y.b (zM n m (gx l k).1 (gx l k).2.1 (gx l k).2.2 L M))]) :: (.slice (some ad112) l.length cl) :: (.int .i64 k) :: (.pointer (some (ad112.add (k.toNat * 3)))) :: (.pointer (some ((ad112.add (k.toNat * 3)).add 1))) :: (.int .i64 ((gx l k).2.1)) :: (.bool true) :: (.bool false) :: (.bool false) :: undef :: []) k_ undef), k + 1, (zL n m (gx l k).1 (gx l k).2.1 (gx l k).2.2 L M), (zM n m (gx l k).1 (gx l k).2.1 (gx l k).2.2 L M), B1, d1, B2, d2, x9, y9, congrArg Fr (by kernel_rfl), rfl, by omega, by omega, hok9, hoky9, HS⟩
            · skip
              refine ql (.bool false) (by kernel_rfl) (R_nbool (p := k < (l.length : Int)) (by kernel_rfl) (hc47)) ?_
              refine wpList_nil ?_
              refine x_then ?_
              refine wp_cond_false (by kernel_rfl) ?_
              refine wp_exit ?_
              refine x_thenE ?_
              refine x_thenE ?_
              refine x_hit ?_
              refine x_then ?_
              refine wp_seq ?_
              refine wp_region_lit ?_
              refine qc (f := 5) (args := #[]) (by kernel_rfl) (R_call #[] Tryd.func5 (by kernel_rfl) (by kernel_rfl) (by kernel_rfl)) ?_
              refine (mawake _).mono ?_
              rintro e W116 ⟨rfl, H_⟩
              refine ⟨_, rfl, ?_⟩
              replace HS : St W (owns []) W116 [blk g38 [.int .i64 n, .slice A1 L.length c1, .bool x.b] 32, row A1 L.length c1 (ci .i64 L) 3 1, blk g40 [.int .i64 m, .slice A2 M.length c2, .bool y.b] 32, row A2 M.length c2 (ci .i64 M) 3 1, many (mxE 53 74 21 62 63 g28 n L x), many (mxE 53 74 21 62 63 g33 m M y)] := HS.join (F := []) (G := []) H_
              clear H_
              refine ql (.bool true) (by kernel_rfl) (by kernel_rfl) ?_
              refine wpList_nil ?_
              refine x_then ?_
              refine wp_ret ?_
              refine ret_ (.bool true) (by kernel_rfl) ?_
              replace HS := HS.drop1
              replace HS := HS.drop1
              replace HS := HS.drop1
              replace HS := HS.drop1
              replace HS := HS.drop1
              replace HS := HS.drop1
              exact ⟨rfl, HS⟩

end Go.Proofs.YtdiodmdohkjafaaDoor
