/- For every size, room and list of numbers what is taken of the sets of chapter 39 is empty, and a set that waits is taken ahead of a new one: PoolSets returns true, and its arguments read as they did. This text: the walks through the functions that the statement reaches. No condition but those in the statement. -/
import Derived.WalkKit
import Derived.StillTailTactics
import Derived.Deep.LoopGhost
import Derived.KernelRfl
import Derived.Deep.OwnRows
import Derived.Laws.OwnMore
import Derived.Laws.MakeOwn
import Derived.Maps.AppendAt
import Derived.OrdersHeld
import Derived.Test.YtgoapobflajliaaDoorProg
import Derived.Test.YtgoapobflajliaaDoorHa
import Derived.Test.YtgoapobflajliaaDoorHb
namespace Go.Proofs.YtgoapobflajliaaDoor
open Go Go.RowKit Go.Shelf Go.Proofs.YtgoapobflajliaaDoor.Hp
attribute [local irreducible] wpStill wpList Code.wp TA
set_option linter.unusedVariables false
set_option linter.unusedSimpArgs false

set_option maxRecDepth 100000 in
set_option maxHeartbeats 1000000 in
theorem lPoolSets (size room : Int) (Al : Option Addr) (cl : Nat) (l : List Int) (W : World) (hra : Rd W Al (ci .i64 l)) (hT : TabAt64 W) : Calls Tryd.prog 4 #[.int .i64 size, .int .i64 room, .slice Al l.length cl] W fun e W' => e = .returned (.bool true) ∧ St W (owns []) W' [] := by
  have HS : St W (owns []) W [] := St.start W _
  refine calls_enter ((.int .i64 size) :: (.int .i64 room) :: (.slice Al l.length cl) :: undef :: undef :: undef :: undef :: undef :: undef :: undef :: undef :: undef :: undef :: undef :: undef :: undef :: undef :: undef :: undef :: undef :: undef :: undef :: undef :: undef :: undef :: undef :: undef :: undef :: undef :: undef :: undef :: undef :: undef :: undef :: undef :: undef :: undef :: undef :: undef :: undef :: undef :: undef :: undef :: undef :: undef :: undef :: undef :: undef :: undef :: undef :: undef :: undef :: undef :: undef :: undef :: undef :: undef :: undef :: undef :: undef :: undef :: undef :: undef :: undef :: undef :: undef :: undef :: undef :: undef :: undef :: undef :: undef :: undef :: undef :: undef :: undef :: undef :: undef :: undef :: undef :: undef :: undef :: undef :: undef :: undef :: undef :: undef :: undef :: undef :: undef :: undef :: undef :: undef :: undef :: undef :: undef :: undef :: undef :: undef :: undef :: undef :: undef :: undef :: undef :: undef :: undef :: undef :: undef :: undef :: undef :: undef :: undef :: undef :: undef :: undef :: undef :: undef :: undef :: undef :: undef :: undef :: undef :: undef :: undef :: undef :: undef :: undef :: undef :: undef :: undef :: undef :: undef :: undef :: undef :: undef :: undef :: undef :: undef :: undef :: undef :: undef :: undef :: undef :: undef :: undef :: undef :: undef :: undef :: undef :: undef :: undef :: undef :: undef :: undef :: undef :: undef :: undef :: undef :: undef :: undef :: undef :: undef :: undef :: undef :: undef :: undef :: []) Tryd.func4 rfl (by kernel_rfl) ?_
  refine wp_seq ?_
  refine wp_region_lit ?_
  refine ql (.bool false) (by kernel_rfl) (by kernel_rfl) ?_
  refine wpList_nil ?_
  refine x_then ?_
  refine wp_seq ?_
  refine wp_seq ?_
  refine wp_region_lit ?_
  refine ql (.int .i64 size) (by kernel_rfl) (by kernel_rfl) ?_
  by_cases hc1 : size < (0 : Int)
  · skip
    refine ql (.bool true) (by kernel_rfl) (R_bool (p := size < (0 : Int)) (by kernel_rfl) (hc1)) ?_
    refine ql (.bool true) (by kernel_rfl) (by kernel_rfl) ?_
    refine qln (by kernel_rfl) ?_
    refine qln (by kernel_rfl) ?_
    refine ql (.bool true) (by kernel_rfl) (by kernel_rfl) ?_
    refine ql (.bool true) (by kernel_rfl) (by kernel_rfl) ?_
    refine qln (by kernel_rfl) ?_
    refine qln (by kernel_rfl) ?_
    refine ql (.bool true) (by kernel_rfl) (by kernel_rfl) ?_
    refine ql (.bool true) (by kernel_rfl) (by kernel_rfl) ?_
    refine qln (by kernel_rfl) ?_
    refine qln (by kernel_rfl) ?_
    refine ql (.bool true) (by kernel_rfl) (by kernel_rfl) ?_
    refine ql (.bool true) (by kernel_rfl) (by kernel_rfl) ?_
    refine qln (by kernel_rfl) ?_
    refine qln (by kernel_rfl) ?_
    refine qln (by kernel_rfl) ?_
    refine ql (.bool true) (by kernel_rfl) (by kernel_rfl) ?_
    refine wpList_nil ?_
    refine x_then ?_
    refine wp_cond_true (by kernel_rfl) ?_
    refine wp_seq ?_
    refine wp_region_lit ?_
    refine qc (f := 17) (args := #[.int .i64 (-1), .int .i64 0]) (by kernel_rfl) (R_call #[.int .i64 (-1), .int .i64 0] Tryd.func17 (by kernel_rfl) (by kernel_rfl) (by kernel_rfl)) ?_
    refine (nsets_arg1 (-1) 0 _ (by omega)).mono ?_
    rintro e W2 ⟨rfl, H_⟩
    refine ⟨_, rfl, ?_⟩
    replace HS : St W (owns []) W2 [] := HS.join (F := []) (G := []) H_
    clear H_
    refine ql (.tuple #[.pointer none, .int .i64 2]) (by kernel_rfl) (by kernel_rfl) ?_
    refine ql (.pointer none) (by kernel_rfl) (by kernel_rfl) ?_
    refine ql (.int .i64 2) (by kernel_rfl) (by kernel_rfl) ?_
    refine ql (.pointer none) (by kernel_rfl) (by kernel_rfl) ?_
    refine ql (.int .i64 2) (by kernel_rfl) (by kernel_rfl) ?_
    refine wpList_nil ?_
    refine x_then ?_
    refine wp_seq ?_
    refine wp_region_lit ?_
    refine qc (f := 17) (args := #[.int .i64 0, .int .i64 0]) (by kernel_rfl) (R_call #[.int .i64 0, .int .i64 0] Tryd.func17 (by kernel_rfl) (by kernel_rfl) (by kernel_rfl)) ?_
    refine (nsets_arg2 0 0 _ (by omega) (by omega) (by omega)).mono ?_
    rintro e W3 ⟨rfl, H_⟩
    refine ⟨_, rfl, ?_⟩
    replace HS : St W (owns []) W3 [] := HS.join (F := []) (G := []) H_
    clear H_
    refine ql (.tuple #[.pointer none, .int .i64 2]) (by kernel_rfl) (by kernel_rfl) ?_
    refine ql (.pointer none) (by kernel_rfl) (by kernel_rfl) ?_
    refine ql (.int .i64 2) (by kernel_rfl) (by kernel_rfl) ?_
    refine ql (.pointer none) (by kernel_rfl) (by kernel_rfl) ?_
    refine ql (.int .i64 2) (by kernel_rfl) (by kernel_rfl) ?_
    refine wpList_nil ?_
    refine x_then ?_
    refine wp_seq ?_
    refine wp_region_lit ?_
    refine ql (.pointer none) (by kernel_rfl) (by kernel_rfl) ?_
    refine ql (.bool true) (by kernel_rfl) (by kernel_rfl) ?_
    refine ql (.bool true) (by kernel_rfl) (by kernel_rfl) ?_
    refine ql (.int .i64 2) (by kernel_rfl) (by kernel_rfl) ?_
    refine ql (.bool true) (by kernel_rfl) (R_beq (b := ((2 : Int) == 2)) (by kernel_rfl) (by decide)) ?_
    refine ql (.bool true) (by kernel_rfl) (by kernel_rfl) ?_
    refine ql (.bool true) (by kernel_rfl) (by kernel_rfl) ?_
    refine ql (.pointer none) (by kernel_rfl) (by kernel_rfl) ?_
    refine ql (.bool true) (by kernel_rfl) (by kernel_rfl) ?_
    refine ql (.bool true) (by kernel_rfl) (by kernel_rfl) ?_
    refine ql (.bool true) (by kernel_rfl) (by kernel_rfl) ?_
    refine ql (.int .i64 2) (by kernel_rfl) (by kernel_rfl) ?_
    refine ql (.bool true) (by kernel_rfl) (R_beq (b := ((2 : Int) == 2)) (by kernel_rfl) (by decide)) ?_
    refine ql (.bool true) (by kernel_rfl) (by kernel_rfl) ?_
    refine ql (.bool true) (by kernel_rfl) (by kernel_rfl) ?_
    refine qc (f := 20) (args := #[]) (by kernel_rfl) (R_call #[] Tryd.func20 (by kernel_rfl) (by kernel_rfl) (by kernel_rfl)) ?_
    refine (awake39 _).mono ?_
    rintro e W4 ⟨rfl, H_⟩
    refine ⟨_, rfl, ?_⟩
    replace HS : St W (owns []) W4 [] := HS.join (F := []) (G := []) H_
    clear H_
    refine ql (.bool true) (by kernel_rfl) (by kernel_rfl) ?_
    refine ql (.bool true) (by kernel_rfl) (by kernel_rfl) ?_
    refine wpList_nil ?_
    refine x_then ?_
    refine wp_ret ?_
    refine x_thenR ?_
    refine ret_ (.bool true) (by kernel_rfl) ?_
    exact ⟨rfl, HS⟩
  · skip
    refine ql (.bool false) (by kernel_rfl) (R_nbool (p := size < (0 : Int)) (by kernel_rfl) (hc1)) ?_
    refine ql (.bool false) (by kernel_rfl) (by kernel_rfl) ?_
    refine ql (.int .i64 size) (by kernel_rfl) (by kernel_rfl) ?_
    by_cases hc5 : size > (200 : Int)
    · skip
      refine ql (.bool true) (by kernel_rfl) (R_bool (p := size > (200 : Int)) (by kernel_rfl) (hc5)) ?_
      refine ql (.bool true) (by kernel_rfl) (by kernel_rfl) ?_
      refine ql (.bool true) (by kernel_rfl) (by kernel_rfl) ?_
      refine qln (by kernel_rfl) ?_
      refine qln (by kernel_rfl) ?_
      refine ql (.bool true) (by kernel_rfl) (by kernel_rfl) ?_
      refine ql (.bool true) (by kernel_rfl) (by kernel_rfl) ?_
      refine qln (by kernel_rfl) ?_
      refine qln (by kernel_rfl) ?_
      refine ql (.bool true) (by kernel_rfl) (by kernel_rfl) ?_
      refine ql (.bool true) (by kernel_rfl) (by kernel_rfl) ?_
      refine qln (by kernel_rfl) ?_
      refine qln (by kernel_rfl) ?_
      refine qln (by kernel_rfl) ?_
      refine ql (.bool true) (by kernel_rfl) (by kernel_rfl) ?_
      refine wpList_nil ?_
      refine x_then ?_
      refine wp_cond_true (by kernel_rfl) ?_
      refine wp_seq ?_
      refine wp_region_lit ?_
      refine qc (f := 17) (args := #[.int .i64 (-1), .int .i64 0]) (by kernel_rfl) (R_call #[.int .i64 (-1), .int .i64 0] Tryd.func17 (by kernel_rfl) (by kernel_rfl) (by kernel_rfl)) ?_
      refine (nsets_arg1 (-1) 0 _ (by omega)).mono ?_
      rintro e W6 ⟨rfl, H_⟩
      refine ⟨_, rfl, ?_⟩
      replace HS : St W (owns []) W6 [] := HS.join (F := []) (G := []) H_
      clear H_
      refine ql (.tuple #[.pointer none, .int .i64 2]) (by kernel_rfl) (by kernel_rfl) ?_
      refine ql (.pointer none) (by kernel_rfl) (by kernel_rfl) ?_
      refine ql (.int .i64 2) (by kernel_rfl) (by kernel_rfl) ?_
      refine ql (.pointer none) (by kernel_rfl) (by kernel_rfl) ?_
      refine ql (.int .i64 2) (by kernel_rfl) (by kernel_rfl) ?_
      refine wpList_nil ?_
      refine x_then ?_
      refine wp_seq ?_
      refine wp_region_lit ?_
      refine qc (f := 17) (args := #[.int .i64 0, .int .i64 0]) (by kernel_rfl) (R_call #[.int .i64 0, .int .i64 0] Tryd.func17 (by kernel_rfl) (by kernel_rfl) (by kernel_rfl)) ?_
      refine (nsets_arg2 0 0 _ (by omega) (by omega) (by omega)).mono ?_
      rintro e W7 ⟨rfl, H_⟩
      refine ⟨_, rfl, ?_⟩
      replace HS : St W (owns []) W7 [] := HS.join (F := []) (G := []) H_
      clear H_
      refine ql (.tuple #[.pointer none, .int .i64 2]) (by kernel_rfl) (by kernel_rfl) ?_
      refine ql (.pointer none) (by kernel_rfl) (by kernel_rfl) ?_
      refine ql (.int .i64 2) (by kernel_rfl) (by kernel_rfl) ?_
      refine ql (.pointer none) (by kernel_rfl) (by kernel_rfl) ?_
      refine ql (.int .i64 2) (by kernel_rfl) (by kernel_rfl) ?_
      refine wpList_nil ?_
      refine x_then ?_
      refine wp_seq ?_
      refine wp_region_lit ?_
      refine ql (.pointer none) (by kernel_rfl) (by kernel_rfl) ?_
      refine ql (.bool true) (by kernel_rfl) (by kernel_rfl) ?_
      refine ql (.bool true) (by kernel_rfl) (by kernel_rfl) ?_
      refine ql (.int .i64 2) (by kernel_rfl) (by kernel_rfl) ?_
      refine ql (.bool true) (by kernel_rfl) (R_beq (b := ((2 : Int) == 2)) (by kernel_rfl) (by decide)) ?_
      refine ql (.bool true) (by kernel_rfl) (by kernel_rfl) ?_
      refine ql (.bool true) (by kernel_rfl) (by kernel_rfl) ?_
      refine ql (.pointer none) (by kernel_rfl) (by kernel_rfl) ?_
      refine ql (.bool true) (by kernel_rfl) (by kernel_rfl) ?_
      refine ql (.bool true) (by kernel_rfl) (by kernel_rfl) ?_
      refine ql (.bool true) (by kernel_rfl) (by kernel_rfl) ?_
      refine ql (.int .i64 2) (by kernel_rfl) (by kernel_rfl) ?_
      refine ql (.bool true) (by kernel_rfl) (R_beq (b := ((2 : Int) == 2)) (by kernel_rfl) (by decide)) ?_
      refine ql (.bool true) (by kernel_rfl) (by kernel_rfl) ?_
      refine ql (.bool true) (by kernel_rfl) (by kernel_rfl) ?_
      refine qc (f := 20) (args := #[]) (by kernel_rfl) (R_call #[] Tryd.func20 (by kernel_rfl) (by kernel_rfl) (by kernel_rfl)) ?_
      refine (awake39 _).mono ?_
      rintro e W8 ⟨rfl, H_⟩
      refine ⟨_, rfl, ?_⟩
      replace HS : St W (owns []) W8 [] := HS.join (F := []) (G := []) H_
      clear H_
      refine ql (.bool true) (by kernel_rfl) (by kernel_rfl) ?_
      refine ql (.bool true) (by kernel_rfl) (by kernel_rfl) ?_
      refine wpList_nil ?_
      refine x_then ?_
      refine wp_ret ?_
      refine x_thenR ?_
      refine ret_ (.bool true) (by kernel_rfl) ?_
      exact ⟨rfl, HS⟩
    · skip
      refine ql (.bool false) (by kernel_rfl) (R_nbool (p := size > (200 : Int)) (by kernel_rfl) (hc5)) ?_
      refine ql (.bool false) (by kernel_rfl) (by kernel_rfl) ?_
      refine ql (.bool false) (by kernel_rfl) (by kernel_rfl) ?_
      refine ql (.int .i64 room) (by kernel_rfl) (by kernel_rfl) ?_
      by_cases hc9 : room < (1 : Int)
      · skip
        refine ql (.bool true) (by kernel_rfl) (R_bool (p := room < (1 : Int)) (by kernel_rfl) (hc9)) ?_
        refine ql (.bool true) (by kernel_rfl) (by kernel_rfl) ?_
        refine ql (.bool true) (by kernel_rfl) (by kernel_rfl) ?_
        refine qln (by kernel_rfl) ?_
        refine qln (by kernel_rfl) ?_
        refine ql (.bool true) (by kernel_rfl) (by kernel_rfl) ?_
        refine ql (.bool true) (by kernel_rfl) (by kernel_rfl) ?_
        refine qln (by kernel_rfl) ?_
        refine qln (by kernel_rfl) ?_
        refine qln (by kernel_rfl) ?_
        refine ql (.bool true) (by kernel_rfl) (by kernel_rfl) ?_
        refine wpList_nil ?_
        refine x_then ?_
        refine wp_cond_true (by kernel_rfl) ?_
        refine wp_seq ?_
        refine wp_region_lit ?_
        refine qc (f := 17) (args := #[.int .i64 (-1), .int .i64 0]) (by kernel_rfl) (R_call #[.int .i64 (-1), .int .i64 0] Tryd.func17 (by kernel_rfl) (by kernel_rfl) (by kernel_rfl)) ?_
        refine (nsets_arg1 (-1) 0 _ (by omega)).mono ?_
        rintro e W10 ⟨rfl, H_⟩
        refine ⟨_, rfl, ?_⟩
        replace HS : St W (owns []) W10 [] := HS.join (F := []) (G := []) H_
        clear H_
        refine ql (.tuple #[.pointer none, .int .i64 2]) (by kernel_rfl) (by kernel_rfl) ?_
        refine ql (.pointer none) (by kernel_rfl) (by kernel_rfl) ?_
        refine ql (.int .i64 2) (by kernel_rfl) (by kernel_rfl) ?_
        refine ql (.pointer none) (by kernel_rfl) (by kernel_rfl) ?_
        refine ql (.int .i64 2) (by kernel_rfl) (by kernel_rfl) ?_
        refine wpList_nil ?_
        refine x_then ?_
        refine wp_seq ?_
        refine wp_region_lit ?_
        refine qc (f := 17) (args := #[.int .i64 0, .int .i64 0]) (by kernel_rfl) (R_call #[.int .i64 0, .int .i64 0] Tryd.func17 (by kernel_rfl) (by kernel_rfl) (by kernel_rfl)) ?_
        refine (nsets_arg2 0 0 _ (by omega) (by omega) (by omega)).mono ?_
        rintro e W11 ⟨rfl, H_⟩
        refine ⟨_, rfl, ?_⟩
        replace HS : St W (owns []) W11 [] := HS.join (F := []) (G := []) H_
        clear H_
        refine ql (.tuple #[.pointer none, .int .i64 2]) (by kernel_rfl) (by kernel_rfl) ?_
        refine ql (.pointer none) (by kernel_rfl) (by kernel_rfl) ?_
        refine ql (.int .i64 2) (by kernel_rfl) (by kernel_rfl) ?_
        refine ql (.pointer none) (by kernel_rfl) (by kernel_rfl) ?_
        refine ql (.int .i64 2) (by kernel_rfl) (by kernel_rfl) ?_
        refine wpList_nil ?_
        refine x_then ?_
        refine wp_seq ?_
        refine wp_region_lit ?_
        refine ql (.pointer none) (by kernel_rfl) (by kernel_rfl) ?_
        refine ql (.bool true) (by kernel_rfl) (by kernel_rfl) ?_
        refine ql (.bool true) (by kernel_rfl) (by kernel_rfl) ?_
        refine ql (.int .i64 2) (by kernel_rfl) (by kernel_rfl) ?_
        refine ql (.bool true) (by kernel_rfl) (R_beq (b := ((2 : Int) == 2)) (by kernel_rfl) (by decide)) ?_
        refine ql (.bool true) (by kernel_rfl) (by kernel_rfl) ?_
        refine ql (.bool true) (by kernel_rfl) (by kernel_rfl) ?_
        refine ql (.pointer none) (by kernel_rfl) (by kernel_rfl) ?_
        refine ql (.bool true) (by kernel_rfl) (by kernel_rfl) ?_
        refine ql (.bool true) (by kernel_rfl) (by kernel_rfl) ?_
        refine ql (.bool true) (by kernel_rfl) (by kernel_rfl) ?_
        refine ql (.int .i64 2) (by kernel_rfl) (by kernel_rfl) ?_
        refine ql (.bool true) (by kernel_rfl) (R_beq (b := ((2 : Int) == 2)) (by kernel_rfl) (by decide)) ?_
        refine ql (.bool true) (by kernel_rfl) (by kernel_rfl) ?_
        refine ql (.bool true) (by kernel_rfl) (by kernel_rfl) ?_
        refine qc (f := 20) (args := #[]) (by kernel_rfl) (R_call #[] Tryd.func20 (by kernel_rfl) (by kernel_rfl) (by kernel_rfl)) ?_
        refine (awake39 _).mono ?_
        rintro e W12 ⟨rfl, H_⟩
        refine ⟨_, rfl, ?_⟩
        replace HS : St W (owns []) W12 [] := HS.join (F := []) (G := []) H_
        clear H_
        refine ql (.bool true) (by kernel_rfl) (by kernel_rfl) ?_
        refine ql (.bool true) (by kernel_rfl) (by kernel_rfl) ?_
        refine wpList_nil ?_
        refine x_then ?_
        refine wp_ret ?_
        refine x_thenR ?_
        refine ret_ (.bool true) (by kernel_rfl) ?_
        exact ⟨rfl, HS⟩
      · skip
        refine ql (.bool false) (by kernel_rfl) (R_nbool (p := room < (1 : Int)) (by kernel_rfl) (hc9)) ?_
        refine ql (.bool false) (by kernel_rfl) (by kernel_rfl) ?_
        refine ql (.bool false) (by kernel_rfl) (by kernel_rfl) ?_
        refine ql (.int .i64 room) (by kernel_rfl) (by kernel_rfl) ?_
        by_cases hc13 : room > (20 : Int)
        · skip
          refine ql (.bool true) (by kernel_rfl) (R_bool (p := room > (20 : Int)) (by kernel_rfl) (hc13)) ?_
          refine ql (.bool true) (by kernel_rfl) (by kernel_rfl) ?_
          refine ql (.bool true) (by kernel_rfl) (by kernel_rfl) ?_
          refine qln (by kernel_rfl) ?_
          refine qln (by kernel_rfl) ?_
          refine qln (by kernel_rfl) ?_
          refine ql (.bool true) (by kernel_rfl) (by kernel_rfl) ?_
          refine wpList_nil ?_
          refine x_then ?_
          refine wp_cond_true (by kernel_rfl) ?_
          refine wp_seq ?_
          refine wp_region_lit ?_
          refine qc (f := 17) (args := #[.int .i64 (-1), .int .i64 0]) (by kernel_rfl) (R_call #[.int .i64 (-1), .int .i64 0] Tryd.func17 (by kernel_rfl) (by kernel_rfl) (by kernel_rfl)) ?_
          refine (nsets_arg1 (-1) 0 _ (by omega)).mono ?_
          rintro e W14 ⟨rfl, H_⟩
          refine ⟨_, rfl, ?_⟩
          replace HS : St W (owns []) W14 [] := HS.join (F := []) (G := []) H_
          clear H_
          refine ql (.tuple #[.pointer none, .int .i64 2]) (by kernel_rfl) (by kernel_rfl) ?_
          refine ql (.pointer none) (by kernel_rfl) (by kernel_rfl) ?_
          refine ql (.int .i64 2) (by kernel_rfl) (by kernel_rfl) ?_
          refine ql (.pointer none) (by kernel_rfl) (by kernel_rfl) ?_
          refine ql (.int .i64 2) (by kernel_rfl) (by kernel_rfl) ?_
          refine wpList_nil ?_
          refine x_then ?_
          refine wp_seq ?_
          refine wp_region_lit ?_
          refine qc (f := 17) (args := #[.int .i64 0, .int .i64 0]) (by kernel_rfl) (R_call #[.int .i64 0, .int .i64 0] Tryd.func17 (by kernel_rfl) (by kernel_rfl) (by kernel_rfl)) ?_
          refine (nsets_arg2 0 0 _ (by omega) (by omega) (by omega)).mono ?_
          rintro e W15 ⟨rfl, H_⟩
          refine ⟨_, rfl, ?_⟩
          replace HS : St W (owns []) W15 [] := HS.join (F := []) (G := []) H_
          clear H_
          refine ql (.tuple #[.pointer none, .int .i64 2]) (by kernel_rfl) (by kernel_rfl) ?_
          refine ql (.pointer none) (by kernel_rfl) (by kernel_rfl) ?_
          refine ql (.int .i64 2) (by kernel_rfl) (by kernel_rfl) ?_
          refine ql (.pointer none) (by kernel_rfl) (by kernel_rfl) ?_
          refine ql (.int .i64 2) (by kernel_rfl) (by kernel_rfl) ?_
          refine wpList_nil ?_
          refine x_then ?_
          refine wp_seq ?_
          refine wp_region_lit ?_
          refine ql (.pointer none) (by kernel_rfl) (by kernel_rfl) ?_
          refine ql (.bool true) (by kernel_rfl) (by kernel_rfl) ?_
          refine ql (.bool true) (by kernel_rfl) (by kernel_rfl) ?_
          refine ql (.int .i64 2) (by kernel_rfl) (by kernel_rfl) ?_
          refine ql (.bool true) (by kernel_rfl) (R_beq (b := ((2 : Int) == 2)) (by kernel_rfl) (by decide)) ?_
          refine ql (.bool true) (by kernel_rfl) (by kernel_rfl) ?_
          refine ql (.bool true) (by kernel_rfl) (by kernel_rfl) ?_
          refine ql (.pointer none) (by kernel_rfl) (by kernel_rfl) ?_
          refine ql (.bool true) (by kernel_rfl) (by kernel_rfl) ?_
          refine ql (.bool true) (by kernel_rfl) (by kernel_rfl) ?_
          refine ql (.bool true) (by kernel_rfl) (by kernel_rfl) ?_
          refine ql (.int .i64 2) (by kernel_rfl) (by kernel_rfl) ?_
          refine ql (.bool true) (by kernel_rfl) (R_beq (b := ((2 : Int) == 2)) (by kernel_rfl) (by decide)) ?_
          refine ql (.bool true) (by kernel_rfl) (by kernel_rfl) ?_
          refine ql (.bool true) (by kernel_rfl) (by kernel_rfl) ?_
          refine qc (f := 20) (args := #[]) (by kernel_rfl) (R_call #[] Tryd.func20 (by kernel_rfl) (by kernel_rfl) (by kernel_rfl)) ?_
          refine (awake39 _).mono ?_
          rintro e W16 ⟨rfl, H_⟩
          refine ⟨_, rfl, ?_⟩
          replace HS : St W (owns []) W16 [] := HS.join (F := []) (G := []) H_
          clear H_
          refine ql (.bool true) (by kernel_rfl) (by kernel_rfl) ?_
          refine ql (.bool true) (by kernel_rfl) (by kernel_rfl) ?_
          refine wpList_nil ?_
          refine x_then ?_
          refine wp_ret ?_
          refine x_thenR ?_
          refine ret_ (.bool true) (by kernel_rfl) ?_
          exact ⟨rfl, HS⟩
        · skip
          refine ql (.bool false) (by kernel_rfl) (R_nbool (p := room > (20 : Int)) (by kernel_rfl) (hc13)) ?_
          refine ql (.bool false) (by kernel_rfl) (by kernel_rfl) ?_
          refine ql (.bool false) (by kernel_rfl) (by kernel_rfl) ?_
          refine ql (.slice Al l.length cl) (by kernel_rfl) (by kernel_rfl) ?_
          refine ql (.int .i64 (l.length : Int)) (by kernel_rfl) (by kernel_rfl) ?_
          by_cases hc17 : (l.length : Int) > (40 : Int)
          · skip
            refine ql (.bool true) (by kernel_rfl) (R_bool (p := (l.length : Int) > (40 : Int)) (by kernel_rfl) (hc17)) ?_
            refine ql (.bool true) (by kernel_rfl) (by kernel_rfl) ?_
            refine wpList_nil ?_
            refine x_then ?_
            refine wp_cond_true (by kernel_rfl) ?_
            refine wp_seq ?_
            refine wp_region_lit ?_
            refine qc (f := 17) (args := #[.int .i64 (-1), .int .i64 0]) (by kernel_rfl) (R_call #[.int .i64 (-1), .int .i64 0] Tryd.func17 (by kernel_rfl) (by kernel_rfl) (by kernel_rfl)) ?_
            refine (nsets_arg1 (-1) 0 _ (by omega)).mono ?_
            rintro e W18 ⟨rfl, H_⟩
            refine ⟨_, rfl, ?_⟩
            replace HS : St W (owns []) W18 [] := HS.join (F := []) (G := []) H_
            clear H_
            refine ql (.tuple #[.pointer none, .int .i64 2]) (by kernel_rfl) (by kernel_rfl) ?_
            refine ql (.pointer none) (by kernel_rfl) (by kernel_rfl) ?_
            refine ql (.int .i64 2) (by kernel_rfl) (by kernel_rfl) ?_
            refine ql (.pointer none) (by kernel_rfl) (by kernel_rfl) ?_
            refine ql (.int .i64 2) (by kernel_rfl) (by kernel_rfl) ?_
            refine wpList_nil ?_
            refine x_then ?_
            refine wp_seq ?_
            refine wp_region_lit ?_
            refine qc (f := 17) (args := #[.int .i64 0, .int .i64 0]) (by kernel_rfl) (R_call #[.int .i64 0, .int .i64 0] Tryd.func17 (by kernel_rfl) (by kernel_rfl) (by kernel_rfl)) ?_
            refine (nsets_arg2 0 0 _ (by omega) (by omega) (by omega)).mono ?_
            rintro e W19 ⟨rfl, H_⟩
            refine ⟨_, rfl, ?_⟩
            replace HS : St W (owns []) W19 [] := HS.join (F := []) (G := []) H_
            clear H_
            refine ql (.tuple #[.pointer none, .int .i64 2]) (by kernel_rfl) (by kernel_rfl) ?_
            refine ql (.pointer none) (by kernel_rfl) (by kernel_rfl) ?_
            refine ql (.int .i64 2) (by kernel_rfl) (by kernel_rfl) ?_
            refine ql (.pointer none) (by kernel_rfl) (by kernel_rfl) ?_
            refine ql (.int .i64 2) (by kernel_rfl) (by kernel_rfl) ?_
            refine wpList_nil ?_
            refine x_then ?_
            refine wp_seq ?_
            refine wp_region_lit ?_
            refine ql (.pointer none) (by kernel_rfl) (by kernel_rfl) ?_
            refine ql (.bool true) (by kernel_rfl) (by kernel_rfl) ?_
            refine ql (.bool true) (by kernel_rfl) (by kernel_rfl) ?_
            refine ql (.int .i64 2) (by kernel_rfl) (by kernel_rfl) ?_
            refine ql (.bool true) (by kernel_rfl) (R_beq (b := ((2 : Int) == 2)) (by kernel_rfl) (by decide)) ?_
            refine ql (.bool true) (by kernel_rfl) (by kernel_rfl) ?_
            refine ql (.bool true) (by kernel_rfl) (by kernel_rfl) ?_
            refine ql (.pointer none) (by kernel_rfl) (by kernel_rfl) ?_
            refine ql (.bool true) (by kernel_rfl) (by kernel_rfl) ?_
            refine ql (.bool true) (by kernel_rfl) (by kernel_rfl) ?_
            refine ql (.bool true) (by kernel_rfl) (by kernel_rfl) ?_
            refine ql (.int .i64 2) (by kernel_rfl) (by kernel_rfl) ?_
            refine ql (.bool true) (by kernel_rfl) (R_beq (b := ((2 : Int) == 2)) (by kernel_rfl) (by decide)) ?_
            refine ql (.bool true) (by kernel_rfl) (by kernel_rfl) ?_
            refine ql (.bool true) (by kernel_rfl) (by kernel_rfl) ?_
            refine qc (f := 20) (args := #[]) (by kernel_rfl) (R_call #[] Tryd.func20 (by kernel_rfl) (by kernel_rfl) (by kernel_rfl)) ?_
            refine (awake39 _).mono ?_
            rintro e W20 ⟨rfl, H_⟩
            refine ⟨_, rfl, ?_⟩
            replace HS : St W (owns []) W20 [] := HS.join (F := []) (G := []) H_
            clear H_
            refine ql (.bool true) (by kernel_rfl) (by kernel_rfl) ?_
            refine ql (.bool true) (by kernel_rfl) (by kernel_rfl) ?_
            refine wpList_nil ?_
            refine x_then ?_
            refine wp_ret ?_
            refine x_thenR ?_
            refine ret_ (.bool true) (by kernel_rfl) ?_
            exact ⟨rfl, HS⟩
          · skip
            refine ql (.bool false) (by kernel_rfl) (R_nbool (p := (l.length : Int) > (40 : Int)) (by kernel_rfl) (hc17)) ?_
            refine ql (.bool false) (by kernel_rfl) (by kernel_rfl) ?_
            refine wpList_nil ?_
            refine x_then ?_
            refine wp_cond_false (by kernel_rfl) ?_
            refine wp_skip ?_
            refine x_then ?_
            refine wp_seq ?_
            refine wp_region_lit ?_
            refine ql (.int .i64 size) (by kernel_rfl) (by kernel_rfl) ?_
            refine ql (.int .i64 room) (by kernel_rfl) (by kernel_rfl) ?_
            refine qc (f := 17) (args := #[.int .i64 size, .int .i64 room]) (by kernel_rfl) (R_call #[.int .i64 size, .int .i64 room] Tryd.func17 (by kernel_rfl) (by kernel_rfl) (by kernel_rfl)) ?_
            refine (nsets_ok size room _ (by omega) (by omega) (by omega) (by omega)).mono ?_
            rintro e W24 ⟨gs21, gp22, c23, rfl, H_⟩
            refine ⟨_, rfl, ?_⟩
            replace HS : St W (owns []) W24 [blk gs21 [.pointer (some ⟨gp22, 0, none⟩), .int .i64 size, .int .i64 0] 67, blk gp22 [.chan (some c23)] 95, chn c23 ((room).toNat) ((wptr ([] : List Ws)).map fun n : Nat => Value.pointer (some ⟨n, 0, none⟩)), many (rsE 77 74 size (wRw ([] : List Ws)))] := HS.join (F := []) (G := [blk gs21 [.pointer (some ⟨gp22, 0, none⟩), .int .i64 size, .int .i64 0] 67, blk gp22 [.chan (some c23)] 95, chn c23 ((room).toNat) ((wptr ([] : List Ws)).map fun n : Nat => Value.pointer (some ⟨n, 0, none⟩)), many (rsE 77 74 size (wRw ([] : List Ws)))]) H_
            clear H_
            refine ql (.tuple #[.pointer (some ⟨gs21, 0, none⟩), .int .i64 0]) (by kernel_rfl) (by kernel_rfl) ?_
            refine ql (.pointer (some ⟨gs21, 0, none⟩)) (by kernel_rfl) (by kernel_rfl) ?_
            refine ql (.int .i64 0) (by kernel_rfl) (by kernel_rfl) ?_
            refine ql (.pointer (some ⟨gs21, 0, none⟩)) (by kernel_rfl) (by kernel_rfl) ?_
            refine ql (.int .i64 0) (by kernel_rfl) (by kernel_rfl) ?_
            refine wpList_nil ?_
            refine x_then ?_
            refine wp_seq ?_
            refine wp_seq ?_
            refine wp_region_lit ?_
            refine ql (.pointer (some ⟨gs21, 0, none⟩)) (by kernel_rfl) (by kernel_rfl) ?_
            refine ql (.bool false) (by kernel_rfl) (by kernel_rfl) ?_
            refine ql (.bool false) (by kernel_rfl) (by kernel_rfl) ?_
            refine ql (.int .i64 0) (by kernel_rfl) (by kernel_rfl) ?_
            refine ql (.bool false) (by kernel_rfl) (R_beq (b := ((0 : Int) != 0)) (by kernel_rfl) (by decide)) ?_
            refine ql (.bool false) (by kernel_rfl) (by kernel_rfl) ?_
            refine wpList_nil ?_
            refine x_then ?_
            refine wp_cond_false (by kernel_rfl) ?_
            refine wp_skip ?_
            refine x_then ?_
            refine wp_seq ?_
            refine wp_region_lit ?_
            refine ql (.int .i64 0) (by kernel_rfl) (by kernel_rfl) ?_
            refine ql (.int .i64 0) (by kernel_rfl) (by kernel_rfl) ?_
            refine wpList_nil ?_
            refine x_then ?_
            refine wp_seq ?_
            refine wp_seq ?_
            refine wp_region_lit ?_
            refine ql (.int .i64 0) (by kernel_rfl) (by kernel_rfl) ?_
            refine wpList_nil ?_
            refine x_then ?_
            refine wp_block ?_
            refine wp_loop_ghost (fun kq a' w' => ∃ (J25 : Nat → Value) (k : Int) (waits : Int) (made : Int) (wl : List Ws) , a' = Fr ((.int .i64 size) :: (.int .i64 room) :: (.slice Al l.length cl) :: undef :: undef :: undef :: ((J25 6)) :: undef :: undef :: undef :: undef :: (.pointer (some ⟨gs21, 0, none⟩)) :: (.int .i64 0) :: (.int .i64 waits) :: (.int .i64 made) :: (.int .i64 k) :: ((J25 16)) :: ((J25 17)) :: ((J25 18)) :: ((J25 19)) :: ((J25 20)) :: (.int .i64 size) :: (.bool false) :: (.bool false) :: (.int .i64 size) :: (.bool false) :: (.bool false) :: (.bool false) :: (.int .i64 room) :: (.bool false) :: (.bool false) :: (.bool false) :: (.int .i64 room) :: (.bool false) :: (.bool false) :: (.bool false) :: (.slice Al l.length cl) :: (.int .i64 (l.length : Int)) :: (.bool false) :: (.bool false) :: undef :: undef :: undef :: undef :: undef :: undef :: undef :: undef :: undef :: undef :: undef :: undef :: undef :: undef :: undef :: undef :: undef :: undef :: undef :: undef :: undef :: undef :: undef :: undef :: undef :: (.tuple #[.pointer (some ⟨gs21, 0, none⟩), .int .i64 0]) :: (.int .i64 size) :: (.int .i64 room) :: (.tuple #[.pointer (some ⟨gs21, 0, none⟩), .int .i64 0]) :: (.pointer (some ⟨gs21, 0, none⟩)) :: (.int .i64 0) :: (.pointer (some ⟨gs21, 0, none⟩)) :: (.bool false) :: (.bool false) :: (.int .i64 0) :: (.bool false) :: (.bool false) :: ((J25 77)) :: ((J25 78)) :: ((J25 79)) :: ((J25 80)) :: ((J25 81)) :: ((J25 82)) :: ((J25 83)) :: ((J25 84)) :: ((J25 85)) :: ((J25 86)) :: ((J25 87)) :: ((J25 88)) :: ((J25 89)) :: ((J25 90)) :: ((J25 91)) :: ((J25 92)) :: ((J25 93)) :: ((J25 94)) :: ((J25 95)) :: ((J25 96)) :: ((J25 97)) :: ((J25 98)) :: ((J25 99)) :: ((J25 100)) :: ((J25 101)) :: ((J25 102)) :: ((J25 103)) :: ((J25 104)) :: ((J25 105)) :: ((J25 106)) :: ((J25 107)) :: ((J25 108)) :: ((J25 109)) :: ((J25 110)) :: ((J25 111)) :: ((J25 112)) :: ((J25 113)) :: ((J25 114)) :: ((J25 115)) :: ((J25 116)) :: ((J25 117)) :: ((J25 118)) :: ((J25 119)) :: ((J25 120)) :: ((J25 121)) :: ((J25 122)) :: ((J25 123)) :: ((J25 124)) :: ((J25 125)) :: ((J25 126)) :: ((J25 127)) :: ((J25 128)) :: ((J25 129)) :: ((J25 130)) :: ((J25 131)) :: ((J25 132)) :: ((J25 133)) :: ((J25 134)) :: ((J25 135)) :: ((J25 136)) :: ((J25 137)) :: ((J25 138)) :: ((J25 139)) :: ((J25 140)) :: ((J25 141)) :: ((J25 142)) :: ((J25 143)) :: ((J25 144)) :: ((J25 145)) :: ((J25 146)) :: ((J25 147)) :: ((J25 148)) :: ((J25 149)) :: ((J25 150)) :: ((J25 151)) :: ((J25 152)) :: ((J25 153)) :: ((J25 154)) :: ((J25 155)) :: ((J25 156)) :: ((J25 157)) :: ((J25 158)) :: ((J25 159)) :: ((J25 160)) :: ((J25 161)) :: ((J25 162)) :: ((J25 163)) :: ((J25 164)) :: undef :: []) ∧ kq = (l.length - (k).toNat) ∧ (0 ≤ k) ∧ (k ≤ l.length) ∧ (0 ≤ made) ∧ (made ≤ k) ∧ (waits = (wl.length : Int)) ∧ (wl.length ≤ room.toNat) ∧ (∀ y ∈ wl, Rep y.2.2.2 size []) ∧ St W (owns []) w' [blk gs21 [.pointer (some ⟨gp22, 0, none⟩), .int .i64 size, .int .i64 made] 67, blk gp22 [.chan (some c23)] 95, chn c23 ((room).toNat) ((wptr wl).map fun n : Nat => Value.pointer (some ⟨n, 0, none⟩)), many (rsE 77 74 size (wRw wl))]) (l.length - ((0 : Int)).toNat) ⟨(fun k_ : Nat => List.getD ((.int .i64 size) :: (.int .i64 room) :: (.slice Al l.length cl) :: undef :: undef :: undef :: (.bool false) :: undef :: undef :: undef :: undef :: (.pointer (some ⟨gs21, 0, none⟩)) :: (.int .i64 0) :: (.int .i64 0) :: (.int .i64 0) :: (.int .i64 0) :: undef :: undef :: undef :: undef :: undef :: (.int .i64 size) :: (.bool false) :: (.bool false) :: (.int .i64 size) :: (.bool false) :: (.bool false) :: (.bool false) :: (.int .i64 room) :: (.bool false) :: (.bool false) :: (.bool false) :: (.int .i64 room) :: (.bool false) :: (.bool false) :: (.bool false) :: (.slice Al l.length cl) :: (.int .i64 (l.length : Int)) :: (.bool false) :: (.bool false) :: undef :: undef :: undef :: undef :: undef :: undef :: undef :: undef :: undef :: undef :: undef :: undef :: undef :: undef :: undef :: undef :: undef :: undef :: undef :: undef :: undef :: undef :: undef :: undef :: undef :: (.tuple #[.pointer (some ⟨gs21, 0, none⟩), .int .i64 0]) :: (.int .i64 size) :: (.int .i64 room) :: (.tuple #[.pointer (some ⟨gs21, 0, none⟩), .int .i64 0]) :: (.pointer (some ⟨gs21, 0, none⟩)) :: (.int .i64 0) :: (.pointer (some ⟨gs21, 0, none⟩)) :: (.bool false) :: (.bool false) :: (.int .i64 0) :: (.bool false) :: (.bool false) :: undef :: undef :: undef :: undef :: undef :: undef :: undef :: undef :: undef :: undef :: undef :: undef :: undef :: undef :: undef :: undef :: undef :: undef :: undef :: undef :: undef :: undef :: undef :: undef :: undef :: undef :: undef :: undef :: undef :: undef :: undef :: undef :: undef :: undef :: undef :: undef :: undef :: undef :: undef :: undef :: undef :: undef :: undef :: undef :: undef :: undef :: undef :: undef :: undef :: undef :: undef :: undef :: undef :: undef :: undef :: undef :: undef :: undef :: undef :: undef :: undef :: undef :: undef :: undef :: undef :: undef :: undef :: undef :: undef :: undef :: undef :: undef :: undef :: undef :: undef :: undef :: undef :: undef :: undef :: undef :: undef :: undef :: undef :: undef :: undef :: undef :: undef :: undef :: undef :: []) k_ undef), (0 : Int), (0 : Int), (0 : Int), [], congrArg Fr (by kernel_rfl), rfl, by omega, by omega, by omega, by omega, rfl, (by simp), (fun y hy => nomatch hy), HS⟩ ?_
            clear HS
            intro kq26 a' W27 hrel
            obtain ⟨J25, k, waits, made, wl, rfl, hk, k0, k1, m0, m1, hwt, hwl, hw, HS⟩ := hrel
            refine wp_seq ?_
            refine wp_seq ?_
            refine wp_region_lit ?_
            refine ql (.int .i64 k) (by kernel_rfl) (by kernel_rfl) ?_
            refine ql (.slice Al l.length cl) (by kernel_rfl) (by kernel_rfl) ?_
            refine ql (.int .i64 (l.length : Int)) (by kernel_rfl) (by kernel_rfl) ?_
            by_cases hc28 : k < (l.length : Int)
            · skip
              refine ql (.bool true) (by kernel_rfl) (R_bool (p := k < (l.length : Int)) (by kernel_rfl) (hc28)) ?_
              refine wpList_nil ?_
              refine x_then ?_
              refine wp_cond_true (by kernel_rfl) ?_
              refine wp_skip ?_
              refine x_then ?_
              refine wp_seq ?_
              refine wp_block ?_
              refine wp_seq ?_
              refine wp_region_lit ?_
              refine ql (.pointer (some ⟨gs21, 0, none⟩)) (by kernel_rfl) (by kernel_rfl) ?_
              refine qc (f := 14) (args := #[.pointer (some ⟨gs21, 0, none⟩)]) (by kernel_rfl) (R_call #[.pointer (some ⟨gs21, 0, none⟩)] Tryd.func14 (by kernel_rfl) (by kernel_rfl) (by kernel_rfl)) ?_
              rcases wl with _ | ⟨⟨g1, A1, c1, ws1⟩, wl⟩
              · skip
                have hwt0 : waits = 0 := hwt
                refine (stake_new gs21 gp22 c23 ((room).toNat) size made _ _ (St.focus (F := [blk gs21 [.pointer (some ⟨gp22, 0, none⟩), .int .i64 size, .int .i64 made] 67, blk gp22 [.chan (some c23)] 95, chn c23 ((room).toNat) ((wptr ([] : List Ws)).map fun n : Nat => Value.pointer (some ⟨n, 0, none⟩)), many (rsE 77 74 size (wRw ([] : List Ws)))]) HS) (by omega) (by omega) (by omega) (by omega)).mono ?_
                rintro e W34 ⟨g29, a30, c31, ws32, rfl, H_, hR33⟩
                refine ⟨_, rfl, ?_⟩
                replace HS : St W (owns []) W34 [blk g29 [.slice (some ⟨a30, 0, none⟩) ws32.length c31, .int .i64 size] 77, row (some ⟨a30, 0, none⟩) ws32.length c31 (ci .u64 ws32) 74 1, blk gs21 [.pointer (some ⟨gp22, 0, none⟩), .int .i64 size, .int .i64 (made + 1)] 67, blk gp22 [.chan (some c23)] 95, chn c23 ((room).toNat) ((wptr ([] : List Ws)).map fun n : Nat => Value.pointer (some ⟨n, 0, none⟩)), many (rsE 77 74 size (wRw ([] : List Ws)))] := HS.join (F := [blk gs21 [.pointer (some ⟨gp22, 0, none⟩), .int .i64 size, .int .i64 made] 67, blk gp22 [.chan (some c23)] 95, chn c23 ((room).toNat) ((wptr ([] : List Ws)).map fun n : Nat => Value.pointer (some ⟨n, 0, none⟩)), many (rsE 77 74 size (wRw ([] : List Ws)))]) (G := [blk g29 [.slice (some ⟨a30, 0, none⟩) ws32.length c31, .int .i64 size] 77, row (some ⟨a30, 0, none⟩) ws32.length c31 (ci .u64 ws32) 74 1, blk gs21 [.pointer (some ⟨gp22, 0, none⟩), .int .i64 size, .int .i64 (made + 1)] 67, blk gp22 [.chan (some c23)] 95, chn c23 ((room).toNat) ((wptr ([] : List Ws)).map fun n : Nat => Value.pointer (some ⟨n, 0, none⟩)), many (rsE 77 74 size (wRw ([] : List Ws)))]) H_
                clear H_
                refine ql (.pointer (some ⟨g29, 0, none⟩)) (by kernel_rfl) (by kernel_rfl) ?_
                refine wpList_nil ?_
                refine x_then ?_
                refine wp_seq ?_
                refine wp_seq ?_
                refine wp_region_lit ?_
                refine ql (.int .i64 waits) (by kernel_rfl) (by kernel_rfl) ?_
                refine ql (.bool false) (by kernel_rfl) (R_nbool (p := waits > (0 : Int)) (by kernel_rfl) (by omega)) ?_
                refine wpList_nil ?_
                refine x_then ?_
                refine wp_cond_false (by kernel_rfl) ?_
                refine wp_region_lit ?_
                refine ql (.int .i64 made) (by kernel_rfl) (by kernel_rfl) ?_
                refine ql (.int .i64 (made + 1)) (by kernel_rfl) (R_int (by kernel_rfl) (w64 (by omega))) ?_
                refine ql (.int .i64 (made + 1)) (by kernel_rfl) (by kernel_rfl) ?_
                refine wpList_nil ?_
                refine x_then ?_
                refine wp_seq ?_
                refine wp_seq ?_
                refine wp_region_lit ?_
                refine ql (.pointer (some ⟨g29, 0, none⟩)) (by kernel_rfl) (by kernel_rfl) ?_
                refine ql (.bool false) (by kernel_rfl) (by kernel_rfl) ?_
                refine ql (.bool false) (by kernel_rfl) (by kernel_rfl) ?_
                refine ql (.pointer (some ⟨g29, 0, none⟩)) (by kernel_rfl) (by kernel_rfl) ?_
                refine qc (f := 21) (args := #[.pointer (some ⟨g29, 0, none⟩)]) (by kernel_rfl) (R_call #[.pointer (some ⟨g29, 0, none⟩)] Tryd.func21 (by kernel_rfl) (by kernel_rfl) (by kernel_rfl)) ?_
                refine (dsize g29 size _ (HS.cell (i := 0) (j := 1) rfl rfl)).mono ?_
                rintro e W35 ⟨rfl, H_⟩
                refine ⟨_, rfl, ?_⟩
                replace HS : St W (owns []) W35 [blk g29 [.slice (some ⟨a30, 0, none⟩) ws32.length c31, .int .i64 size] 77, row (some ⟨a30, 0, none⟩) ws32.length c31 (ci .u64 ws32) 74 1, blk gs21 [.pointer (some ⟨gp22, 0, none⟩), .int .i64 size, .int .i64 (made + 1)] 67, blk gp22 [.chan (some c23)] 95, chn c23 ((room).toNat) ((wptr ([] : List Ws)).map fun n : Nat => Value.pointer (some ⟨n, 0, none⟩)), many (rsE 77 74 size (wRw ([] : List Ws)))] := HS.join (F := []) (G := []) H_
                clear H_
                refine ql (.int .i64 size) (by kernel_rfl) (by kernel_rfl) ?_
                refine ql (.bool false) (by kernel_rfl) (R_beq (b := (size != size)) (by kernel_rfl) (bne_f (by omega))) ?_
                refine ql (.bool false) (by kernel_rfl) (by kernel_rfl) ?_
                refine ql (.bool false) (by kernel_rfl) (by kernel_rfl) ?_
                refine ql (.pointer (some ⟨g29, 0, none⟩)) (by kernel_rfl) (by kernel_rfl) ?_
                refine qc (f := 22) (args := #[.pointer (some ⟨g29, 0, none⟩)]) (by kernel_rfl) (R_call #[.pointer (some ⟨g29, 0, none⟩)] Tryd.func22 (by kernel_rfl) (by kernel_rfl) (by kernel_rfl)) ?_
                refine (dcount g29 c31 (some ⟨a30, 0, none⟩) ws32 size [] _ (HS.cell (i := 0) (j := 0) rfl rfl) (HS.cell (i := 0) (j := 1) rfl rfl) (Rd.row HS (i := 1) rfl) hR33 (by omega)).mono ?_
                rintro e W36 ⟨rfl, H_⟩
                rw [show ((([] : List Int).length : Nat) : Int) = 0 from rfl]
                refine ⟨_, rfl, ?_⟩
                replace HS : St W (owns []) W36 [blk g29 [.slice (some ⟨a30, 0, none⟩) ws32.length c31, .int .i64 size] 77, row (some ⟨a30, 0, none⟩) ws32.length c31 (ci .u64 ws32) 74 1, blk gs21 [.pointer (some ⟨gp22, 0, none⟩), .int .i64 size, .int .i64 (made + 1)] 67, blk gp22 [.chan (some c23)] 95, chn c23 ((room).toNat) ((wptr ([] : List Ws)).map fun n : Nat => Value.pointer (some ⟨n, 0, none⟩)), many (rsE 77 74 size (wRw ([] : List Ws)))] := HS.join (F := []) (G := []) H_
                clear H_
                refine ql (.bool false) (by kernel_rfl) (R_beq (b := ((0 : Int) != 0)) (by kernel_rfl) (by decide)) ?_
                refine ql (.bool false) (by kernel_rfl) (by kernel_rfl) ?_
                refine ql (.bool false) (by kernel_rfl) (by kernel_rfl) ?_
                refine ql (.pointer (some ⟨gs21, 0, none⟩)) (by kernel_rfl) (by kernel_rfl) ?_
                refine qc (f := 16) (args := #[.pointer (some ⟨gs21, 0, none⟩)]) (by kernel_rfl) (R_call #[.pointer (some ⟨gs21, 0, none⟩)] Tryd.func16 (by kernel_rfl) (by kernel_rfl) (by kernel_rfl)) ?_
                refine (smade gs21 (made + 1) _ (HS.cell (i := 2) (j := 2) rfl rfl)).mono ?_
                rintro e W37 ⟨rfl, H_⟩
                refine ⟨_, rfl, ?_⟩
                replace HS : St W (owns []) W37 [blk g29 [.slice (some ⟨a30, 0, none⟩) ws32.length c31, .int .i64 size] 77, row (some ⟨a30, 0, none⟩) ws32.length c31 (ci .u64 ws32) 74 1, blk gs21 [.pointer (some ⟨gp22, 0, none⟩), .int .i64 size, .int .i64 (made + 1)] 67, blk gp22 [.chan (some c23)] 95, chn c23 ((room).toNat) ((wptr ([] : List Ws)).map fun n : Nat => Value.pointer (some ⟨n, 0, none⟩)), many (rsE 77 74 size (wRw ([] : List Ws)))] := HS.join (F := []) (G := []) H_
                clear H_
                refine ql (.int .i64 (made + 1)) (by kernel_rfl) (by kernel_rfl) ?_
                refine ql (.bool false) (by kernel_rfl) (R_beq (b := ((made + 1) != made + 1)) (by kernel_rfl) (bne_f (by omega))) ?_
                refine ql (.bool false) (by kernel_rfl) (by kernel_rfl) ?_
                refine wpList_nil ?_
                refine x_then ?_
                refine wp_cond_false (by kernel_rfl) ?_
                refine wp_skip ?_
                refine x_then ?_
                refine wp_seq ?_
                refine wp_region_lit ?_
                refine ql (.pointer (some ⟨g29, 0, none⟩)) (by kernel_rfl) (by kernel_rfl) ?_
                refine ql (.slice Al l.length cl) (by kernel_rfl) (by kernel_rfl) ?_
                refine ql (.int .i64 k) (by kernel_rfl) (by kernel_rfl) ?_
                obtain ⟨ad38, rfl⟩ := Rd.isSome_ hra (by rw [ci_len]; omega)
                refine ql (.pointer (some (ad38.add k.toNat))) (by kernel_rfl) (R_indexA1 (k := .i64) (p := ad38) (n := l.length) (c := cl) (i := k) (by kernel_rfl) (by kernel_rfl) Tryd.underlying38 (by kernel_rfl) (by omega) (by omega)) ?_
                refine ql (.int .i64 (rdI l k)) (by kernel_rfl) (R_load (p := ad38.add k.toNat) (by kernel_rfl) (by kernel_rfl) (by kernel_rfl) (HS.old0 (hra.at_ (ci_rd (i := k) (by omega) (by omega))))) ?_
                refine qc (f := 18) (args := #[.pointer (some ⟨g29, 0, none⟩), .int .i64 (rdI l k)]) (by kernel_rfl) (R_call #[.pointer (some ⟨g29, 0, none⟩), .int .i64 (rdI l k)] Tryd.func18 (by kernel_rfl) (by kernel_rfl) (by kernel_rfl)) ?_
                refine (daddu g29 c31 (some ⟨a30, 0, none⟩) ws32 size ([]) (rdI l k) _ _ (St.focus (F := [blk g29 [.slice (some ⟨a30, 0, none⟩) ws32.length c31, .int .i64 size] 77, row (some ⟨a30, 0, none⟩) ws32.length c31 (ci .u64 ws32) 74 1]) HS) hR33 (by omega)).mono ?_
                rintro e W41 ⟨ws39, rfl, H_, hR40⟩
                refine ⟨_, rfl, ?_⟩
                replace HS : St W (owns []) W41 [blk g29 [.slice (some ⟨a30, 0, none⟩) ws39.length c31, .int .i64 size] 77, row (some ⟨a30, 0, none⟩) ws39.length c31 (ci .u64 ws39) 74 1, blk gs21 [.pointer (some ⟨gp22, 0, none⟩), .int .i64 size, .int .i64 (made + 1)] 67, blk gp22 [.chan (some c23)] 95, chn c23 ((room).toNat) ((wptr ([] : List Ws)).map fun n : Nat => Value.pointer (some ⟨n, 0, none⟩)), many (rsE 77 74 size (wRw ([] : List Ws)))] := HS.join (F := [blk g29 [.slice (some ⟨a30, 0, none⟩) ws32.length c31, .int .i64 size] 77, row (some ⟨a30, 0, none⟩) ws32.length c31 (ci .u64 ws32) 74 1]) (G := [blk g29 [.slice (some ⟨a30, 0, none⟩) ws39.length c31, .int .i64 size] 77, row (some ⟨a30, 0, none⟩) ws39.length c31 (ci .u64 ws39) 74 1]) H_
                clear H_
                refine wpList_nil ?_
                refine x_then ?_
                refine wp_seq ?_
                refine wp_region_lit ?_
                refine ql (.pointer (some ⟨g29, 0, none⟩)) (by kernel_rfl) (by kernel_rfl) ?_
                refine qc (f := 18) (args := #[.pointer (some ⟨g29, 0, none⟩), .int .i64 0]) (by kernel_rfl) (R_call #[.pointer (some ⟨g29, 0, none⟩), .int .i64 0] Tryd.func18 (by kernel_rfl) (by kernel_rfl) (by kernel_rfl)) ?_
                refine (daddu g29 c31 (some ⟨a30, 0, none⟩) ws39 size (addL size ([]) (rdI l k)) (0 : Int) _ _ (St.focus (F := [blk g29 [.slice (some ⟨a30, 0, none⟩) ws39.length c31, .int .i64 size] 77, row (some ⟨a30, 0, none⟩) ws39.length c31 (ci .u64 ws39) 74 1]) HS) hR40 (by omega)).mono ?_
                rintro e W44 ⟨ws42, rfl, H_, hR43⟩
                refine ⟨_, rfl, ?_⟩
                replace HS : St W (owns []) W44 [blk g29 [.slice (some ⟨a30, 0, none⟩) ws42.length c31, .int .i64 size] 77, row (some ⟨a30, 0, none⟩) ws42.length c31 (ci .u64 ws42) 74 1, blk gs21 [.pointer (some ⟨gp22, 0, none⟩), .int .i64 size, .int .i64 (made + 1)] 67, blk gp22 [.chan (some c23)] 95, chn c23 ((room).toNat) ((wptr ([] : List Ws)).map fun n : Nat => Value.pointer (some ⟨n, 0, none⟩)), many (rsE 77 74 size (wRw ([] : List Ws)))] := HS.join (F := [blk g29 [.slice (some ⟨a30, 0, none⟩) ws39.length c31, .int .i64 size] 77, row (some ⟨a30, 0, none⟩) ws39.length c31 (ci .u64 ws39) 74 1]) (G := [blk g29 [.slice (some ⟨a30, 0, none⟩) ws42.length c31, .int .i64 size] 77, row (some ⟨a30, 0, none⟩) ws42.length c31 (ci .u64 ws42) 74 1]) H_
                clear H_
                refine wpList_nil ?_
                refine x_then ?_
                refine wp_seq ?_
                refine wp_region_lit ?_
                refine ql (.slice (some ad38) l.length cl) (by kernel_rfl) (by kernel_rfl) ?_
                refine ql (.int .i64 k) (by kernel_rfl) (by kernel_rfl) ?_
                refine ql (.pointer (some (ad38.add k.toNat))) (by kernel_rfl) (R_indexA1 (k := .i64) (p := ad38) (n := l.length) (c := cl) (i := k) (by kernel_rfl) (by kernel_rfl) Tryd.underlying38 (by kernel_rfl) (by omega) (by omega)) ?_
                refine ql (.int .i64 (rdI l k)) (by kernel_rfl) (R_load (p := ad38.add k.toNat) (by kernel_rfl) (by kernel_rfl) (by kernel_rfl) (HS.old0 (hra.at_ (ci_rd (i := k) (by omega) (by omega))))) ?_
                refine ql (.int .i64 (andI (rdI l k) 1)) (by kernel_rfl) (R_andI (i := rdI l k) (j := 1) (by kernel_rfl) (by kernel_rfl)) ?_
                by_cases hc45 : (andI (rdI l k) 1) = (0 : Int)
                · skip
                  refine ql (.bool true) (by kernel_rfl) (R_beq (b := (andI (rdI l k) 1 == (0 : Int))) (by kernel_rfl) (beq_t (hc45))) ?_
                  refine wpList_nil ?_
                  refine x_then ?_
                  refine wp_cond_true (by kernel_rfl) ?_
                  refine wp_seq ?_
                  refine wp_seq ?_
                  refine wp_region_lit ?_
                  refine ql (.pointer (some ⟨gs21, 0, none⟩)) (by kernel_rfl) (by kernel_rfl) ?_
                  refine ql (.pointer (some ⟨g29, 0, none⟩)) (by kernel_rfl) (by kernel_rfl) ?_
                  refine qc (f := 15) (args := #[.pointer (some ⟨gs21, 0, none⟩), .pointer (some ⟨g29, 0, none⟩)]) (by kernel_rfl) (R_call #[.pointer (some ⟨gs21, 0, none⟩), .pointer (some ⟨g29, 0, none⟩)] Tryd.func15 (by kernel_rfl) (by kernel_rfl) (by kernel_rfl)) ?_
                  have hno := HS.no0 (F := [blk g29 [.slice (some ⟨a30, 0, none⟩) ws42.length c31, .int .i64 size] 77, row (some ⟨a30, 0, none⟩) ws42.length c31 (ci .u64 ws42) 74 1, blk gs21 [.pointer (some ⟨gp22, 0, none⟩), .int .i64 size, .int .i64 (made + 1)] 67, blk gp22 [.chan (some c23)] 95, chn c23 ((room).toNat) ((wptr ([] : List Ws)).map fun n : Nat => Value.pointer (some ⟨n, 0, none⟩)), many (rsE 77 74 size (wRw ([] : List Ws)))]) hT.pos
                  have hTc := hT.old0 HS
                  refine (sgive_room gs21 gp22 c23 ((room).toNat) size (made + 1) g29 c31 (some ⟨a30, 0, none⟩) ws42 (addL size (addL size ([]) (rdI l k)) (0 : Int)) ([] : List Ws) _ _ (St.focus (F := [blk g29 [.slice (some ⟨a30, 0, none⟩) ws42.length c31, .int .i64 size] 77, row (some ⟨a30, 0, none⟩) ws42.length c31 (ci .u64 ws42) 74 1, blk gs21 [.pointer (some ⟨gp22, 0, none⟩), .int .i64 size, .int .i64 (made + 1)] 67, blk gp22 [.chan (some c23)] 95, chn c23 ((room).toNat) ((wptr ([] : List Ws)).map fun n : Nat => Value.pointer (some ⟨n, 0, none⟩)), many (rsE 77 74 size (wRw ([] : List Ws)))]) HS) hno hTc hR43 (by omega) (by (try simp only [List.length_append, List.length_cons, List.length_nil]); omega)).mono ?_
                  rintro e W48 ⟨ws46, rfl, H_, hR47⟩
                  refine ⟨_, rfl, ?_⟩
                  replace HS : St W (owns []) W48 [blk gs21 [.pointer (some ⟨gp22, 0, none⟩), .int .i64 size, .int .i64 (made + 1)] 67, blk gp22 [.chan (some c23)] 95, chn c23 ((room).toNat) ((wptr (([] : List Ws) ++ [((g29, (some ⟨a30, 0, none⟩), c31, ws46) : Ws)])).map fun n : Nat => Value.pointer (some ⟨n, 0, none⟩)), many (rsE 77 74 size (wRw (([] : List Ws) ++ [((g29, (some ⟨a30, 0, none⟩), c31, ws46) : Ws)])))] := HS.join (F := [blk g29 [.slice (some ⟨a30, 0, none⟩) ws42.length c31, .int .i64 size] 77, row (some ⟨a30, 0, none⟩) ws42.length c31 (ci .u64 ws42) 74 1, blk gs21 [.pointer (some ⟨gp22, 0, none⟩), .int .i64 size, .int .i64 (made + 1)] 67, blk gp22 [.chan (some c23)] 95, chn c23 ((room).toNat) ((wptr ([] : List Ws)).map fun n : Nat => Value.pointer (some ⟨n, 0, none⟩)), many (rsE 77 74 size (wRw ([] : List Ws)))]) (G := [blk gs21 [.pointer (some ⟨gp22, 0, none⟩), .int .i64 size, .int .i64 (made + 1)] 67, blk gp22 [.chan (some c23)] 95, chn c23 ((room).toNat) ((wptr (([] : List Ws) ++ [((g29, (some ⟨a30, 0, none⟩), c31, ws46) : Ws)])).map fun n : Nat => Value.pointer (some ⟨n, 0, none⟩)), many (rsE 77 74 size (wRw (([] : List Ws) ++ [((g29, (some ⟨a30, 0, none⟩), c31, ws46) : Ws)])))]) H_
                  clear H_
                  refine ql (.int .i64 waits) (by kernel_rfl) (by kernel_rfl) ?_
                  refine ql (.int .i64 room) (by kernel_rfl) (by kernel_rfl) ?_
                  refine ql (.bool true) (by kernel_rfl) (R_bool (p := waits < room) (by kernel_rfl) (by omega)) ?_
                  refine ql (.bool false) (by kernel_rfl) (by kernel_rfl) ?_
                  refine wpList_nil ?_
                  refine x_then ?_
                  refine wp_cond_false (by kernel_rfl) ?_
                  refine wp_skip ?_
                  refine x_then ?_
                  refine wp_seq ?_
                  refine wp_region_lit ?_
                  refine ql (.int .i64 waits) (by kernel_rfl) (by kernel_rfl) ?_
                  refine ql (.int .i64 (waits + 1)) (by kernel_rfl) (R_int (by kernel_rfl) (w64 (by omega))) ?_
                  refine ql (.int .i64 (waits + 1)) (by kernel_rfl) (by kernel_rfl) ?_
                  refine wpList_nil ?_
                  refine x_then ?_
                  refine wp_seq ?_
                  refine wp_region_lit ?_
                  refine ql (.int .i64 size) (by kernel_rfl) (by kernel_rfl) ?_
                  refine ql (.int .i64 room) (by kernel_rfl) (by kernel_rfl) ?_
                  refine qc (f := 17) (args := #[.int .i64 size, .int .i64 room]) (by kernel_rfl) (R_call #[.int .i64 size, .int .i64 room] Tryd.func17 (by kernel_rfl) (by kernel_rfl) (by kernel_rfl)) ?_
                  refine (nsets_ok size room _ (by omega) (by omega) (by omega) (by omega)).mono ?_
                  rintro e W52 ⟨gs49, gp50, c51, rfl, H_⟩
                  refine ⟨_, rfl, ?_⟩
                  replace HS : St W (owns []) W52 [blk gs49 [.pointer (some ⟨gp50, 0, none⟩), .int .i64 size, .int .i64 0] 67, blk gp50 [.chan (some c51)] 95, chn c51 ((room).toNat) ((wptr ([] : List Ws)).map fun n : Nat => Value.pointer (some ⟨n, 0, none⟩)), many (rsE 77 74 size (wRw ([] : List Ws))), blk gs21 [.pointer (some ⟨gp22, 0, none⟩), .int .i64 size, .int .i64 (made + 1)] 67, blk gp22 [.chan (some c23)] 95, chn c23 ((room).toNat) ((wptr (([] : List Ws) ++ [((g29, (some ⟨a30, 0, none⟩), c31, ws46) : Ws)])).map fun n : Nat => Value.pointer (some ⟨n, 0, none⟩)), many (rsE 77 74 size (wRw (([] : List Ws) ++ [((g29, (some ⟨a30, 0, none⟩), c31, ws46) : Ws)])))] := HS.join (F := []) (G := [blk gs49 [.pointer (some ⟨gp50, 0, none⟩), .int .i64 size, .int .i64 0] 67, blk gp50 [.chan (some c51)] 95, chn c51 ((room).toNat) ((wptr ([] : List Ws)).map fun n : Nat => Value.pointer (some ⟨n, 0, none⟩)), many (rsE 77 74 size (wRw ([] : List Ws)))]) H_
                  clear H_
                  refine ql (.tuple #[.pointer (some ⟨gs49, 0, none⟩), .int .i64 0]) (by kernel_rfl) (by kernel_rfl) ?_
                  refine ql (.pointer (some ⟨gs49, 0, none⟩)) (by kernel_rfl) (by kernel_rfl) ?_
                  refine ql (.int .i64 0) (by kernel_rfl) (by kernel_rfl) ?_
                  refine ql (.pointer (some ⟨gs49, 0, none⟩)) (by kernel_rfl) (by kernel_rfl) ?_
                  refine ql (.int .i64 0) (by kernel_rfl) (by kernel_rfl) ?_
                  refine wpList_nil ?_
                  refine x_then ?_
                  refine wp_seq ?_
                  refine wp_region_lit ?_
                  refine ql (.pointer (some ⟨gs49, 0, none⟩)) (by kernel_rfl) (by kernel_rfl) ?_
                  refine qc (f := 14) (args := #[.pointer (some ⟨gs49, 0, none⟩)]) (by kernel_rfl) (R_call #[.pointer (some ⟨gs49, 0, none⟩)] Tryd.func14 (by kernel_rfl) (by kernel_rfl) (by kernel_rfl)) ?_
                  refine (stake_new gs49 gp50 c51 ((room).toNat) size (0 : Int) _ _ (St.focus (F := [blk gs49 [.pointer (some ⟨gp50, 0, none⟩), .int .i64 size, .int .i64 0] 67, blk gp50 [.chan (some c51)] 95, chn c51 ((room).toNat) ((wptr ([] : List Ws)).map fun n : Nat => Value.pointer (some ⟨n, 0, none⟩)), many (rsE 77 74 size (wRw ([] : List Ws)))]) HS) (by omega) (by omega) (by omega) (by omega)).mono ?_
                  rintro e W58 ⟨g53, a54, c55, ws56, rfl, H_, hR57⟩
                  refine ⟨_, rfl, ?_⟩
                  replace HS : St W (owns []) W58 [blk g53 [.slice (some ⟨a54, 0, none⟩) ws56.length c55, .int .i64 size] 77, row (some ⟨a54, 0, none⟩) ws56.length c55 (ci .u64 ws56) 74 1, blk gs49 [.pointer (some ⟨gp50, 0, none⟩), .int .i64 size, .int .i64 (0 + 1)] 67, blk gp50 [.chan (some c51)] 95, chn c51 ((room).toNat) ((wptr ([] : List Ws)).map fun n : Nat => Value.pointer (some ⟨n, 0, none⟩)), many (rsE 77 74 size (wRw ([] : List Ws))), blk gs21 [.pointer (some ⟨gp22, 0, none⟩), .int .i64 size, .int .i64 (made + 1)] 67, blk gp22 [.chan (some c23)] 95, chn c23 ((room).toNat) ((wptr (([] : List Ws) ++ [((g29, (some ⟨a30, 0, none⟩), c31, ws46) : Ws)])).map fun n : Nat => Value.pointer (some ⟨n, 0, none⟩)), many (rsE 77 74 size (wRw (([] : List Ws) ++ [((g29, (some ⟨a30, 0, none⟩), c31, ws46) : Ws)])))] := HS.join (F := [blk gs49 [.pointer (some ⟨gp50, 0, none⟩), .int .i64 size, .int .i64 0] 67, blk gp50 [.chan (some c51)] 95, chn c51 ((room).toNat) ((wptr ([] : List Ws)).map fun n : Nat => Value.pointer (some ⟨n, 0, none⟩)), many (rsE 77 74 size (wRw ([] : List Ws)))]) (G := [blk g53 [.slice (some ⟨a54, 0, none⟩) ws56.length c55, .int .i64 size] 77, row (some ⟨a54, 0, none⟩) ws56.length c55 (ci .u64 ws56) 74 1, blk gs49 [.pointer (some ⟨gp50, 0, none⟩), .int .i64 size, .int .i64 (0 + 1)] 67, blk gp50 [.chan (some c51)] 95, chn c51 ((room).toNat) ((wptr ([] : List Ws)).map fun n : Nat => Value.pointer (some ⟨n, 0, none⟩)), many (rsE 77 74 size (wRw ([] : List Ws)))]) H_
                  clear H_
                  refine ql (.pointer (some ⟨g53, 0, none⟩)) (by kernel_rfl) (by kernel_rfl) ?_
                  refine wpList_nil ?_
                  refine x_then ?_
                  refine wp_seq ?_
                  refine wp_region_lit ?_
                  refine ql (.pointer (some ⟨g53, 0, none⟩)) (by kernel_rfl) (by kernel_rfl) ?_
                  refine qc (f := 18) (args := #[.pointer (some ⟨g53, 0, none⟩), .int .i64 0]) (by kernel_rfl) (R_call #[.pointer (some ⟨g53, 0, none⟩), .int .i64 0] Tryd.func18 (by kernel_rfl) (by kernel_rfl) (by kernel_rfl)) ?_
                  refine (daddu g53 c55 (some ⟨a54, 0, none⟩) ws56 size ([]) (0 : Int) _ _ (St.focus (F := [blk g53 [.slice (some ⟨a54, 0, none⟩) ws56.length c55, .int .i64 size] 77, row (some ⟨a54, 0, none⟩) ws56.length c55 (ci .u64 ws56) 74 1]) HS) hR57 (by omega)).mono ?_
                  rintro e W61 ⟨ws59, rfl, H_, hR60⟩
                  refine ⟨_, rfl, ?_⟩
                  replace HS : St W (owns []) W61 [blk g53 [.slice (some ⟨a54, 0, none⟩) ws59.length c55, .int .i64 size] 77, row (some ⟨a54, 0, none⟩) ws59.length c55 (ci .u64 ws59) 74 1, blk gs49 [.pointer (some ⟨gp50, 0, none⟩), .int .i64 size, .int .i64 (0 + 1)] 67, blk gp50 [.chan (some c51)] 95, chn c51 ((room).toNat) ((wptr ([] : List Ws)).map fun n : Nat => Value.pointer (some ⟨n, 0, none⟩)), many (rsE 77 74 size (wRw ([] : List Ws))), blk gs21 [.pointer (some ⟨gp22, 0, none⟩), .int .i64 size, .int .i64 (made + 1)] 67, blk gp22 [.chan (some c23)] 95, chn c23 ((room).toNat) ((wptr (([] : List Ws) ++ [((g29, (some ⟨a30, 0, none⟩), c31, ws46) : Ws)])).map fun n : Nat => Value.pointer (some ⟨n, 0, none⟩)), many (rsE 77 74 size (wRw (([] : List Ws) ++ [((g29, (some ⟨a30, 0, none⟩), c31, ws46) : Ws)])))] := HS.join (F := [blk g53 [.slice (some ⟨a54, 0, none⟩) ws56.length c55, .int .i64 size] 77, row (some ⟨a54, 0, none⟩) ws56.length c55 (ci .u64 ws56) 74 1]) (G := [blk g53 [.slice (some ⟨a54, 0, none⟩) ws59.length c55, .int .i64 size] 77, row (some ⟨a54, 0, none⟩) ws59.length c55 (ci .u64 ws59) 74 1]) H_
                  clear H_
                  refine wpList_nil ?_
                  refine x_then ?_
                  refine wp_seq ?_
                  refine wp_region_lit ?_
                  refine ql (.pointer (some ⟨gs21, 0, none⟩)) (by kernel_rfl) (by kernel_rfl) ?_
                  refine ql (.pointer (some ⟨g53, 0, none⟩)) (by kernel_rfl) (by kernel_rfl) ?_
                  refine qc (f := 15) (args := #[.pointer (some ⟨gs21, 0, none⟩), .pointer (some ⟨g53, 0, none⟩)]) (by kernel_rfl) (R_call #[.pointer (some ⟨gs21, 0, none⟩), .pointer (some ⟨g53, 0, none⟩)] Tryd.func15 (by kernel_rfl) (by kernel_rfl) (by kernel_rfl)) ?_
                  replace HS : St W (owns []) W61 [blk g53 [.slice (some ⟨a54, 0, none⟩) ws59.length c55, .int .i64 size] 77, row (some ⟨a54, 0, none⟩) ws59.length c55 (ci .u64 ws59) 74 1, blk gs21 [.pointer (some ⟨gp22, 0, none⟩), .int .i64 size, .int .i64 (made + 1)] 67, blk gp22 [.chan (some c23)] 95, chn c23 ((room).toNat) ((wptr (([] : List Ws) ++ [((g29, (some ⟨a30, 0, none⟩), c31, ws46) : Ws)])).map fun n : Nat => Value.pointer (some ⟨n, 0, none⟩)), many (rsE 77 74 size (wRw (([] : List Ws) ++ [((g29, (some ⟨a30, 0, none⟩), c31, ws46) : Ws)]))), blk gs49 [.pointer (some ⟨gp50, 0, none⟩), .int .i64 size, .int .i64 (0 + 1)] 67, blk gp50 [.chan (some c51)] 95, chn c51 ((room).toNat) ((wptr ([] : List Ws)).map fun n : Nat => Value.pointer (some ⟨n, 0, none⟩)), many (rsE 77 74 size (wRw ([] : List Ws)))] := HS.perm (perm_ [0, 1, 6, 7, 8, 9, 2, 3, 4, 5] (by kernel_rfl) rfl)
                  have hno := HS.no0 (F := [blk g53 [.slice (some ⟨a54, 0, none⟩) ws59.length c55, .int .i64 size] 77, row (some ⟨a54, 0, none⟩) ws59.length c55 (ci .u64 ws59) 74 1, blk gs21 [.pointer (some ⟨gp22, 0, none⟩), .int .i64 size, .int .i64 (made + 1)] 67, blk gp22 [.chan (some c23)] 95, chn c23 ((room).toNat) ((wptr (([] : List Ws) ++ [((g29, (some ⟨a30, 0, none⟩), c31, ws46) : Ws)])).map fun n : Nat => Value.pointer (some ⟨n, 0, none⟩)), many (rsE 77 74 size (wRw (([] : List Ws) ++ [((g29, (some ⟨a30, 0, none⟩), c31, ws46) : Ws)])))]) hT.pos
                  have hTc := hT.old0 HS
                  by_cases hv8 : (([] : List Ws) ++ [((g29, (some ⟨a30, 0, none⟩), c31, ws46) : Ws)]).length < room.toNat
                  · skip
                    have hrm := hv8; (try simp only [List.length_append, List.length_cons, List.length_nil] at hrm)
                    refine (sgive_room gs21 gp22 c23 ((room).toNat) size (made + 1) g53 c55 (some ⟨a54, 0, none⟩) ws59 (addL size ([]) (0 : Int)) (([] : List Ws) ++ [((g29, (some ⟨a30, 0, none⟩), c31, ws46) : Ws)]) _ _ (St.focus (F := [blk g53 [.slice (some ⟨a54, 0, none⟩) ws59.length c55, .int .i64 size] 77, row (some ⟨a54, 0, none⟩) ws59.length c55 (ci .u64 ws59) 74 1, blk gs21 [.pointer (some ⟨gp22, 0, none⟩), .int .i64 size, .int .i64 (made + 1)] 67, blk gp22 [.chan (some c23)] 95, chn c23 ((room).toNat) ((wptr (([] : List Ws) ++ [((g29, (some ⟨a30, 0, none⟩), c31, ws46) : Ws)])).map fun n : Nat => Value.pointer (some ⟨n, 0, none⟩)), many (rsE 77 74 size (wRw (([] : List Ws) ++ [((g29, (some ⟨a30, 0, none⟩), c31, ws46) : Ws)])))]) HS) hno hTc hR60 (by omega) (by (try simp only [List.length_append, List.length_cons, List.length_nil]); omega)).mono ?_
                    rintro e W64 ⟨ws62, rfl, H_, hR63⟩
                    refine ⟨_, rfl, ?_⟩
                    replace HS : St W (owns []) W64 [blk gs21 [.pointer (some ⟨gp22, 0, none⟩), .int .i64 size, .int .i64 (made + 1)] 67, blk gp22 [.chan (some c23)] 95, chn c23 ((room).toNat) ((wptr ((([] : List Ws) ++ [((g29, (some ⟨a30, 0, none⟩), c31, ws46) : Ws)]) ++ [((g53, (some ⟨a54, 0, none⟩), c55, ws62) : Ws)])).map fun n : Nat => Value.pointer (some ⟨n, 0, none⟩)), many (rsE 77 74 size (wRw ((([] : List Ws) ++ [((g29, (some ⟨a30, 0, none⟩), c31, ws46) : Ws)]) ++ [((g53, (some ⟨a54, 0, none⟩), c55, ws62) : Ws)]))), blk gs49 [.pointer (some ⟨gp50, 0, none⟩), .int .i64 size, .int .i64 (0 + 1)] 67, blk gp50 [.chan (some c51)] 95, chn c51 ((room).toNat) ((wptr ([] : List Ws)).map fun n : Nat => Value.pointer (some ⟨n, 0, none⟩)), many (rsE 77 74 size (wRw ([] : List Ws)))] := HS.join (F := [blk g53 [.slice (some ⟨a54, 0, none⟩) ws59.length c55, .int .i64 size] 77, row (some ⟨a54, 0, none⟩) ws59.length c55 (ci .u64 ws59) 74 1, blk gs21 [.pointer (some ⟨gp22, 0, none⟩), .int .i64 size, .int .i64 (made + 1)] 67, blk gp22 [.chan (some c23)] 95, chn c23 ((room).toNat) ((wptr (([] : List Ws) ++ [((g29, (some ⟨a30, 0, none⟩), c31, ws46) : Ws)])).map fun n : Nat => Value.pointer (some ⟨n, 0, none⟩)), many (rsE 77 74 size (wRw (([] : List Ws) ++ [((g29, (some ⟨a30, 0, none⟩), c31, ws46) : Ws)])))]) (G := [blk gs21 [.pointer (some ⟨gp22, 0, none⟩), .int .i64 size, .int .i64 (made + 1)] 67, blk gp22 [.chan (some c23)] 95, chn c23 ((room).toNat) ((wptr ((([] : List Ws) ++ [((g29, (some ⟨a30, 0, none⟩), c31, ws46) : Ws)]) ++ [((g53, (some ⟨a54, 0, none⟩), c55, ws62) : Ws)])).map fun n : Nat => Value.pointer (some ⟨n, 0, none⟩)), many (rsE 77 74 size (wRw ((([] : List Ws) ++ [((g29, (some ⟨a30, 0, none⟩), c31, ws46) : Ws)]) ++ [((g53, (some ⟨a54, 0, none⟩), c55, ws62) : Ws)])))]) H_
                    clear H_
                    refine ql (.bool true) (by kernel_rfl) (by kernel_rfl) ?_
                    refine wpList_nil ?_
                    refine x_then ?_
                    refine wp_seq ?_
                    refine wp_seq ?_
                    refine wp_region_lit ?_
                    refine ql (.bool true) (by kernel_rfl) (by kernel_rfl) ?_
                    refine ql (.int .i64 (waits + 1)) (by kernel_rfl) (by kernel_rfl) ?_
                    refine ql (.int .i64 room) (by kernel_rfl) (by kernel_rfl) ?_
                    refine ql (.bool true) (by kernel_rfl) (R_bool (p := (waits + 1) < room) (by kernel_rfl) (by omega)) ?_
                    refine ql (.bool false) (by kernel_rfl) (by kernel_rfl) ?_
                    refine ql (.bool false) (by kernel_rfl) (by kernel_rfl) ?_
                    refine ql (.bool true) (by kernel_rfl) (by kernel_rfl) ?_
                    refine ql (.bool false) (by kernel_rfl) (by kernel_rfl) ?_
                    refine ql (.bool false) (by kernel_rfl) (by kernel_rfl) ?_
                    refine qln (by kernel_rfl) ?_
                    refine qln (by kernel_rfl) ?_
                    refine qln (by kernel_rfl) ?_
                    refine ql (.bool false) (by kernel_rfl) (by kernel_rfl) ?_
                    refine ql (.bool false) (by kernel_rfl) (by kernel_rfl) ?_
                    refine wpList_nil ?_
                    refine x_then ?_
                    refine wp_cond_false (by kernel_rfl) ?_
                    refine wp_skip ?_
                    refine x_then ?_
                    refine wp_seq ?_
                    refine wp_region_lit ?_
                    refine ql (.int .i64 (waits + 1)) (by kernel_rfl) (by kernel_rfl) ?_
                    refine ql (.int .i64 room) (by kernel_rfl) (by kernel_rfl) ?_
                    refine ql (.bool true) (by kernel_rfl) (R_bool (p := (waits + 1) < room) (by kernel_rfl) (by omega)) ?_
                    refine wpList_nil ?_
                    refine x_then ?_
                    refine wp_cond_true (by kernel_rfl) ?_
                    refine wp_region_lit ?_
                    refine ql (.int .i64 (waits + 1)) (by kernel_rfl) (by kernel_rfl) ?_
                    refine ql (.int .i64 ((waits + 1) + 1)) (by kernel_rfl) (R_int (by kernel_rfl) (w64 (by omega))) ?_
                    refine ql (.int .i64 ((waits + 1) + 1)) (by kernel_rfl) (by kernel_rfl) ?_
                    refine wpList_nil ?_
                    refine x_inb ?_
                    refine x_then ?_
                    refine wp_region_lit ?_
                    refine ql (.int .i64 k) (by kernel_rfl) (by kernel_rfl) ?_
                    refine ql (.int .i64 (k + 1)) (by kernel_rfl) (R_int (by kernel_rfl) (w64 (by omega))) ?_
                    refine ql (.int .i64 (k + 1)) (by kernel_rfl) (by kernel_rfl) ?_
                    refine wpList_nil ?_
                    replace HS : St W (owns []) W64 [blk gs21 [.pointer (some ⟨gp22, 0, none⟩), .int .i64 size, .int .i64 (made + 1)] 67, blk gp22 [.chan (some c23)] 95, chn c23 ((room).toNat) ((wptr ((([] : List Ws) ++ [((g29, (some ⟨a30, 0, none⟩), c31, ws46) : Ws)]) ++ [((g53, (some ⟨a54, 0, none⟩), c55, ws62) : Ws)])).map fun n : Nat => Value.pointer (some ⟨n, 0, none⟩)), many (rsE 77 74 size (wRw ((([] : List Ws) ++ [((g29, (some ⟨a30, 0, none⟩), c31, ws46) : Ws)]) ++ [((g53, (some ⟨a54, 0, none⟩), c55, ws62) : Ws)])))] := St.tail (F := [blk gs49 [.pointer (some ⟨gp50, 0, none⟩), .int .i64 size, .int .i64 (0 + 1)] 67, blk gp50 [.chan (some c51)] 95, chn c51 ((room).toNat) ((wptr ([] : List Ws)).map fun n : Nat => Value.pointer (some ⟨n, 0, none⟩)), many (rsE 77 74 size (wRw ([] : List Ws)))]) (HS.perm (perm_ [4, 5, 6, 7, 0, 1, 2, 3] (by kernel_rfl) rfl))
                    refine x_then ?_
                    exact ⟨l.length - (k + 1).toNat, by omega, (fun k_ : Nat => List.getD ((.int .i64 size) :: (.int .i64 room) :: (.slice (some ad38) l.length cl) :: undef :: undef :: undef :: ((J25 6)) :: undef :: undef :: undef :: undef :: (.pointer (some ⟨gs21, 0, none⟩)) :: (.int .i64 0) :: (.int .i64 ((waits + 1) + 1)) :: (.int .i64 (made + 1)) :: (.int .i64 (k + 1)) :: (.pointer (some ⟨g29, 0, none⟩)) :: (.pointer (some ⟨gs49, 0, none⟩)) :: (.int .i64 0) :: (.pointer (some ⟨g53, 0, none⟩)) :: (.bool true) :: (.int .i64 size) :: (.bool false) :: (.bool false) :: (.int .i64 size) :: (.bool false) :: (.bool false) :: (.bool false) :: (.int .i64 room) :: (.bool false) :: (.bool false) :: (.bool false) :: (.int .i64 room) :: (.bool false) :: (.bool false) :: (.bool false) :: (.slice (some ad38) l.length cl) :: (.int .i64 (l.length : Int)) :: (.bool false) :: (.bool false) :: undef :: undef :: undef :: undef :: undef :: undef :: undef :: undef :: undef :: undef :: undef :: undef :: undef :: undef :: undef :: undef :: undef :: undef :: undef :: undef :: undef :: undef :: undef :: undef :: undef :: (.tuple #[.pointer (some ⟨gs21, 0, none⟩), .int .i64 0]) :: (.int .i64 size) :: (.int .i64 room) :: (.tuple #[.pointer (some ⟨gs21, 0, none⟩), .int .i64 0]) :: (.pointer (some ⟨gs21, 0, none⟩)) :: (.int .i64 0) :: (.pointer (some ⟨gs21, 0, none⟩)) :: (.bool false) :: (.bool false) :: (.int .i64 0) :: (.bool false) :: (.bool false) :: (.int .i64 k) :: (.slice (some ad38) l.length cl) :: (.int .i64 (l.length : Int)) :: (.bool true) :: (.int .i64 k) :: (.int .i64 (k + 1)) :: (.pointer (some ⟨gs21, 0, none⟩)) :: (.pointer (some ⟨g29, 0, none⟩)) :: (.int .i64 waits) :: (.bool false) :: ((J25 87)) :: ((J25 88)) :: (.int .i64 made) :: (.int .i64 (made + 1)) :: (.pointer (some ⟨g29, 0, none⟩)) :: (.bool false) :: (.bool false) :: (.pointer (some ⟨g29, 0, none⟩)) :: (.int .i64 size) :: (.int .i64 size) :: (.bool false) :: (.bool false) :: (.bool false) :: (.pointer (some ⟨g29, 0, none⟩)) :: (.int .i64 0) :: (.bool false) :: (.bool false) :: (.bool false) :: (.pointer (some ⟨gs21, 0, none⟩)) :: (.int .i64 (made + 1)) :: (.int .i64 (made + 1)) :: (.bool false) :: (.bool false) :: (.pointer (some ⟨g29, 0, none⟩)) :: (.slice (some ad38) l.length cl) :: (.int .i64 k) :: (.pointer (some (ad38.add k.toNat))) :: (.int .i64 (rdI l k)) :: (.bool (addB size ([]) (rdI l k))) :: (.pointer (some ⟨g29, 0, none⟩)) :: (.bool (addB size (addL size ([]) (rdI l k)) (0 : Int))) :: (.slice (some ad38) l.length cl) :: (.int .i64 k) :: (.pointer (some (ad38.add k.toNat))) :: (.int .i64 (rdI l k)) :: (.int .i64 (andI (rdI l k) 1)) :: (.bool true) :: (.pointer (some ⟨gs21, 0, none⟩)) :: (.pointer (some ⟨g29, 0, none⟩)) :: (.bool true) :: (.int .i64 waits) :: (.int .i64 room) :: (.bool true) :: (.bool false) :: (.int .i64 waits) :: (.int .i64 (waits + 1)) :: (.tuple #[.pointer (some ⟨gs49, 0, none⟩), .int .i64 0]) :: (.int .i64 size) :: (.int .i64 room) :: (.tuple #[.pointer (some ⟨gs49, 0, none⟩), .int .i64 0]) :: (.pointer (some ⟨gs49, 0, none⟩)) :: (.int .i64 0) :: (.pointer (some ⟨gs49, 0, none⟩)) :: (.pointer (some ⟨g53, 0, none⟩)) :: (.pointer (some ⟨g53, 0, none⟩)) :: (.bool (addB size ([]) (0 : Int))) :: (.pointer (some ⟨gs21, 0, none⟩)) :: (.pointer (some ⟨g53, 0, none⟩)) :: (.bool true) :: (.bool true) :: (.int .i64 (waits + 1)) :: (.int .i64 room) :: (.bool true) :: (.bool false) :: (.bool false) :: (.bool true) :: (.bool false) :: (.bool false) :: undef :: undef :: undef :: (.bool false) :: (.bool false) :: (.int .i64 (waits + 1)) :: (.int .i64 room) :: (.bool true) :: (.int .i64 (waits + 1)) :: (.int .i64 ((waits + 1) + 1)) :: undef :: []) k_ undef), k + 1, (waits + 1) + 1, (made + 1), ((([] : List Ws) ++ [((g29, (some ⟨a30, 0, none⟩), c31, ws46) : Ws)]) ++ [((g53, (some ⟨a54, 0, none⟩), c55, ws62) : Ws)]), congrArg Fr (by kernel_rfl), rfl, by omega, by omega, by omega, by omega, (by (try simp only [List.length_append, List.length_cons, List.length_nil]); omega), (by (try simp only [List.length_append, List.length_cons, List.length_nil]); omega), (all_snocW (all_snocW (fun y hy => nomatch hy) hR47) hR63), HS⟩
                  · skip
                    have hrm := hv8; (try simp only [List.length_append, List.length_cons, List.length_nil] at hrm)
                    refine (sgive_full gs21 gp22 c23 ((room).toNat) size (made + 1) g53 c55 (some ⟨a54, 0, none⟩) ws59 (addL size ([]) (0 : Int)) (([] : List Ws) ++ [((g29, (some ⟨a30, 0, none⟩), c31, ws46) : Ws)]) _ _ (St.focus (F := [blk g53 [.slice (some ⟨a54, 0, none⟩) ws59.length c55, .int .i64 size] 77, row (some ⟨a54, 0, none⟩) ws59.length c55 (ci .u64 ws59) 74 1, blk gs21 [.pointer (some ⟨gp22, 0, none⟩), .int .i64 size, .int .i64 (made + 1)] 67, blk gp22 [.chan (some c23)] 95, chn c23 ((room).toNat) ((wptr (([] : List Ws) ++ [((g29, (some ⟨a30, 0, none⟩), c31, ws46) : Ws)])).map fun n : Nat => Value.pointer (some ⟨n, 0, none⟩)), many (rsE 77 74 size (wRw (([] : List Ws) ++ [((g29, (some ⟨a30, 0, none⟩), c31, ws46) : Ws)])))]) HS) hno hTc hR60 (by omega) (by (try simp only [List.length_append, List.length_cons, List.length_nil]); omega)).mono ?_
                    rintro e W65 ⟨ws62, rfl, H_, hR63⟩
                    refine ⟨_, rfl, ?_⟩
                    replace HS : St W (owns []) W65 [blk g53 [.slice (some ⟨a54, 0, none⟩) ws62.length c55, .int .i64 size] 77, row (some ⟨a54, 0, none⟩) ws62.length c55 (ci .u64 ws62) 74 1, blk gs21 [.pointer (some ⟨gp22, 0, none⟩), .int .i64 size, .int .i64 (made + 1)] 67, blk gp22 [.chan (some c23)] 95, chn c23 ((room).toNat) ((wptr (([] : List Ws) ++ [((g29, (some ⟨a30, 0, none⟩), c31, ws46) : Ws)])).map fun n : Nat => Value.pointer (some ⟨n, 0, none⟩)), many (rsE 77 74 size (wRw (([] : List Ws) ++ [((g29, (some ⟨a30, 0, none⟩), c31, ws46) : Ws)]))), blk gs49 [.pointer (some ⟨gp50, 0, none⟩), .int .i64 size, .int .i64 (0 + 1)] 67, blk gp50 [.chan (some c51)] 95, chn c51 ((room).toNat) ((wptr ([] : List Ws)).map fun n : Nat => Value.pointer (some ⟨n, 0, none⟩)), many (rsE 77 74 size (wRw ([] : List Ws)))] := HS.join (F := [blk g53 [.slice (some ⟨a54, 0, none⟩) ws59.length c55, .int .i64 size] 77, row (some ⟨a54, 0, none⟩) ws59.length c55 (ci .u64 ws59) 74 1, blk gs21 [.pointer (some ⟨gp22, 0, none⟩), .int .i64 size, .int .i64 (made + 1)] 67, blk gp22 [.chan (some c23)] 95, chn c23 ((room).toNat) ((wptr (([] : List Ws) ++ [((g29, (some ⟨a30, 0, none⟩), c31, ws46) : Ws)])).map fun n : Nat => Value.pointer (some ⟨n, 0, none⟩)), many (rsE 77 74 size (wRw (([] : List Ws) ++ [((g29, (some ⟨a30, 0, none⟩), c31, ws46) : Ws)])))]) (G := [blk g53 [.slice (some ⟨a54, 0, none⟩) ws62.length c55, .int .i64 size] 77, row (some ⟨a54, 0, none⟩) ws62.length c55 (ci .u64 ws62) 74 1, blk gs21 [.pointer (some ⟨gp22, 0, none⟩), .int .i64 size, .int .i64 (made + 1)] 67, blk gp22 [.chan (some c23)] 95, chn c23 ((room).toNat) ((wptr (([] : List Ws) ++ [((g29, (some ⟨a30, 0, none⟩), c31, ws46) : Ws)])).map fun n : Nat => Value.pointer (some ⟨n, 0, none⟩)), many (rsE 77 74 size (wRw (([] : List Ws) ++ [((g29, (some ⟨a30, 0, none⟩), c31, ws46) : Ws)])))]) H_
                    clear H_
                    refine ql (.bool false) (by kernel_rfl) (by kernel_rfl) ?_
                    refine wpList_nil ?_
                    refine x_then ?_
                    refine wp_seq ?_
                    refine wp_seq ?_
                    refine wp_region_lit ?_
                    refine ql (.bool false) (by kernel_rfl) (by kernel_rfl) ?_
                    refine ql (.int .i64 (waits + 1)) (by kernel_rfl) (by kernel_rfl) ?_
                    refine ql (.int .i64 room) (by kernel_rfl) (by kernel_rfl) ?_
                    refine ql (.bool false) (by kernel_rfl) (R_nbool (p := (waits + 1) < room) (by kernel_rfl) (by omega)) ?_
                    refine ql (.bool false) (by kernel_rfl) (by kernel_rfl) ?_
                    refine ql (.bool false) (by kernel_rfl) (by kernel_rfl) ?_
                    refine ql (.bool false) (by kernel_rfl) (by kernel_rfl) ?_
                    refine ql (.bool true) (by kernel_rfl) (by kernel_rfl) ?_
                    refine ql (.bool true) (by kernel_rfl) (by kernel_rfl) ?_
                    refine ql (.pointer (some ⟨g53, 0, none⟩)) (by kernel_rfl) (by kernel_rfl) ?_
                    refine qc (f := 22) (args := #[.pointer (some ⟨g53, 0, none⟩)]) (by kernel_rfl) (R_call #[.pointer (some ⟨g53, 0, none⟩)] Tryd.func22 (by kernel_rfl) (by kernel_rfl) (by kernel_rfl)) ?_
                    refine (dcount g53 c55 (some ⟨a54, 0, none⟩) ws62 size [] _ (HS.cell (i := 0) (j := 0) rfl rfl) (HS.cell (i := 0) (j := 1) rfl rfl) (Rd.row HS (i := 1) rfl) hR63 (by omega)).mono ?_
                    rintro e W66 ⟨rfl, H_⟩
                    rw [show ((([] : List Int).length : Nat) : Int) = 0 from rfl]
                    refine ⟨_, rfl, ?_⟩
                    replace HS : St W (owns []) W66 [blk g53 [.slice (some ⟨a54, 0, none⟩) ws62.length c55, .int .i64 size] 77, row (some ⟨a54, 0, none⟩) ws62.length c55 (ci .u64 ws62) 74 1, blk gs21 [.pointer (some ⟨gp22, 0, none⟩), .int .i64 size, .int .i64 (made + 1)] 67, blk gp22 [.chan (some c23)] 95, chn c23 ((room).toNat) ((wptr (([] : List Ws) ++ [((g29, (some ⟨a30, 0, none⟩), c31, ws46) : Ws)])).map fun n : Nat => Value.pointer (some ⟨n, 0, none⟩)), many (rsE 77 74 size (wRw (([] : List Ws) ++ [((g29, (some ⟨a30, 0, none⟩), c31, ws46) : Ws)]))), blk gs49 [.pointer (some ⟨gp50, 0, none⟩), .int .i64 size, .int .i64 (0 + 1)] 67, blk gp50 [.chan (some c51)] 95, chn c51 ((room).toNat) ((wptr ([] : List Ws)).map fun n : Nat => Value.pointer (some ⟨n, 0, none⟩)), many (rsE 77 74 size (wRw ([] : List Ws)))] := HS.join (F := []) (G := []) H_
                    clear H_
                    refine ql (.bool false) (by kernel_rfl) (R_beq (b := ((0 : Int) != 0)) (by kernel_rfl) (by decide)) ?_
                    refine ql (.bool false) (by kernel_rfl) (by kernel_rfl) ?_
                    refine ql (.bool false) (by kernel_rfl) (by kernel_rfl) ?_
                    refine wpList_nil ?_
                    refine x_then ?_
                    refine wp_cond_false (by kernel_rfl) ?_
                    refine wp_skip ?_
                    refine x_then ?_
                    refine wp_seq ?_
                    refine wp_region_lit ?_
                    refine ql (.int .i64 (waits + 1)) (by kernel_rfl) (by kernel_rfl) ?_
                    refine ql (.int .i64 room) (by kernel_rfl) (by kernel_rfl) ?_
                    refine ql (.bool false) (by kernel_rfl) (R_nbool (p := (waits + 1) < room) (by kernel_rfl) (by omega)) ?_
                    refine wpList_nil ?_
                    refine x_then ?_
                    refine wp_cond_false (by kernel_rfl) ?_
                    refine wp_skip ?_
                    refine x_inb ?_
                    refine x_then ?_
                    refine wp_region_lit ?_
                    refine ql (.int .i64 k) (by kernel_rfl) (by kernel_rfl) ?_
                    refine ql (.int .i64 (k + 1)) (by kernel_rfl) (R_int (by kernel_rfl) (w64 (by omega))) ?_
                    refine ql (.int .i64 (k + 1)) (by kernel_rfl) (by kernel_rfl) ?_
                    refine wpList_nil ?_
                    replace HS : St W (owns []) W66 [blk gs21 [.pointer (some ⟨gp22, 0, none⟩), .int .i64 size, .int .i64 (made + 1)] 67, blk gp22 [.chan (some c23)] 95, chn c23 ((room).toNat) ((wptr (([] : List Ws) ++ [((g29, (some ⟨a30, 0, none⟩), c31, ws46) : Ws)])).map fun n : Nat => Value.pointer (some ⟨n, 0, none⟩)), many (rsE 77 74 size (wRw (([] : List Ws) ++ [((g29, (some ⟨a30, 0, none⟩), c31, ws46) : Ws)])))] := St.tail (F := [blk g53 [.slice (some ⟨a54, 0, none⟩) ws62.length c55, .int .i64 size] 77, row (some ⟨a54, 0, none⟩) ws62.length c55 (ci .u64 ws62) 74 1, blk gs49 [.pointer (some ⟨gp50, 0, none⟩), .int .i64 size, .int .i64 (0 + 1)] 67, blk gp50 [.chan (some c51)] 95, chn c51 ((room).toNat) ((wptr ([] : List Ws)).map fun n : Nat => Value.pointer (some ⟨n, 0, none⟩)), many (rsE 77 74 size (wRw ([] : List Ws)))]) (HS.perm (perm_ [0, 1, 6, 7, 8, 9, 2, 3, 4, 5] (by kernel_rfl) rfl))
                    refine x_then ?_
                    exact ⟨l.length - (k + 1).toNat, by omega, (fun k_ : Nat => List.getD ((.int .i64 size) :: (.int .i64 room) :: (.slice (some ad38) l.length cl) :: undef :: undef :: undef :: ((J25 6)) :: undef :: undef :: undef :: undef :: (.pointer (some ⟨gs21, 0, none⟩)) :: (.int .i64 0) :: (.int .i64 (waits + 1)) :: (.int .i64 (made + 1)) :: (.int .i64 (k + 1)) :: (.pointer (some ⟨g29, 0, none⟩)) :: (.pointer (some ⟨gs49, 0, none⟩)) :: (.int .i64 0) :: (.pointer (some ⟨g53, 0, none⟩)) :: (.bool false) :: (.int .i64 size) :: (.bool false) :: (.bool false) :: (.int .i64 size) :: (.bool false) :: (.bool false) :: (.bool false) :: (.int .i64 room) :: (.bool false) :: (.bool false) :: (.bool false) :: (.int .i64 room) :: (.bool false) :: (.bool false) :: (.bool false) :: (.slice (some ad38) l.length cl) :: (.int .i64 (l.length : Int)) :: (.bool false) :: (.bool false) :: undef :: undef :: undef :: undef :: undef :: undef :: undef :: undef :: undef :: undef :: undef :: undef :: undef :: undef :: undef :: undef :: undef :: undef :: undef :: undef :: undef :: undef :: undef :: undef :: undef :: (.tuple #[.pointer (some ⟨gs21, 0, none⟩), .int .i64 0]) :: (.int .i64 size) :: (.int .i64 room) :: (.tuple #[.pointer (some ⟨gs21, 0, none⟩), .int .i64 0]) :: (.pointer (some ⟨gs21, 0, none⟩)) :: (.int .i64 0) :: (.pointer (some ⟨gs21, 0, none⟩)) :: (.bool false) :: (.bool false) :: (.int .i64 0) :: (.bool false) :: (.bool false) :: (.int .i64 k) :: (.slice (some ad38) l.length cl) :: (.int .i64 (l.length : Int)) :: (.bool true) :: (.int .i64 k) :: (.int .i64 (k + 1)) :: (.pointer (some ⟨gs21, 0, none⟩)) :: (.pointer (some ⟨g29, 0, none⟩)) :: (.int .i64 waits) :: (.bool false) :: ((J25 87)) :: ((J25 88)) :: (.int .i64 made) :: (.int .i64 (made + 1)) :: (.pointer (some ⟨g29, 0, none⟩)) :: (.bool false) :: (.bool false) :: (.pointer (some ⟨g29, 0, none⟩)) :: (.int .i64 size) :: (.int .i64 size) :: (.bool false) :: (.bool false) :: (.bool false) :: (.pointer (some ⟨g29, 0, none⟩)) :: (.int .i64 0) :: (.bool false) :: (.bool false) :: (.bool false) :: (.pointer (some ⟨gs21, 0, none⟩)) :: (.int .i64 (made + 1)) :: (.int .i64 (made + 1)) :: (.bool false) :: (.bool false) :: (.pointer (some ⟨g29, 0, none⟩)) :: (.slice (some ad38) l.length cl) :: (.int .i64 k) :: (.pointer (some (ad38.add k.toNat))) :: (.int .i64 (rdI l k)) :: (.bool (addB size ([]) (rdI l k))) :: (.pointer (some ⟨g29, 0, none⟩)) :: (.bool (addB size (addL size ([]) (rdI l k)) (0 : Int))) :: (.slice (some ad38) l.length cl) :: (.int .i64 k) :: (.pointer (some (ad38.add k.toNat))) :: (.int .i64 (rdI l k)) :: (.int .i64 (andI (rdI l k) 1)) :: (.bool true) :: (.pointer (some ⟨gs21, 0, none⟩)) :: (.pointer (some ⟨g29, 0, none⟩)) :: (.bool true) :: (.int .i64 waits) :: (.int .i64 room) :: (.bool true) :: (.bool false) :: (.int .i64 waits) :: (.int .i64 (waits + 1)) :: (.tuple #[.pointer (some ⟨gs49, 0, none⟩), .int .i64 0]) :: (.int .i64 size) :: (.int .i64 room) :: (.tuple #[.pointer (some ⟨gs49, 0, none⟩), .int .i64 0]) :: (.pointer (some ⟨gs49, 0, none⟩)) :: (.int .i64 0) :: (.pointer (some ⟨gs49, 0, none⟩)) :: (.pointer (some ⟨g53, 0, none⟩)) :: (.pointer (some ⟨g53, 0, none⟩)) :: (.bool (addB size ([]) (0 : Int))) :: (.pointer (some ⟨gs21, 0, none⟩)) :: (.pointer (some ⟨g53, 0, none⟩)) :: (.bool false) :: (.bool false) :: (.int .i64 (waits + 1)) :: (.int .i64 room) :: (.bool false) :: (.bool false) :: (.bool false) :: (.bool false) :: (.bool true) :: (.bool true) :: (.pointer (some ⟨g53, 0, none⟩)) :: (.int .i64 0) :: (.bool false) :: (.bool false) :: (.bool false) :: (.int .i64 (waits + 1)) :: (.int .i64 room) :: (.bool false) :: ((J25 163)) :: ((J25 164)) :: undef :: []) k_ undef), k + 1, waits + 1, (made + 1), (([] : List Ws) ++ [((g29, (some ⟨a30, 0, none⟩), c31, ws46) : Ws)]), congrArg Fr (by kernel_rfl), rfl, by omega, by omega, by omega, by omega, (by (try simp only [List.length_append, List.length_cons, List.length_nil]); omega), (by (try simp only [List.length_append, List.length_cons, List.length_nil]); omega), (all_snocW (fun y hy => nomatch hy) hR47), HS⟩
                · skip
                  refine ql (.bool false) (by kernel_rfl) (R_beq (b := (andI (rdI l k) 1 == (0 : Int))) (by kernel_rfl) (beq_f (hc45))) ?_
                  refine wpList_nil ?_
                  refine x_then ?_
                  refine wp_cond_false (by kernel_rfl) ?_
                  refine wp_skip ?_
                  refine x_inb ?_
                  refine x_then ?_
                  refine wp_region_lit ?_
                  refine ql (.int .i64 k) (by kernel_rfl) (by kernel_rfl) ?_
                  refine ql (.int .i64 (k + 1)) (by kernel_rfl) (R_int (by kernel_rfl) (w64 (by omega))) ?_
                  refine ql (.int .i64 (k + 1)) (by kernel_rfl) (by kernel_rfl) ?_
                  refine wpList_nil ?_
                  replace HS := HS.drop1
                  replace HS := HS.drop1
                  refine x_then ?_
                  exact ⟨l.length - (k + 1).toNat, by omega, (fun k_ : Nat => List.getD ((.int .i64 size) :: (.int .i64 room) :: (.slice (some ad38) l.length cl) :: undef :: undef :: undef :: ((J25 6)) :: undef :: undef :: undef :: undef :: (.pointer (some ⟨gs21, 0, none⟩)) :: (.int .i64 0) :: (.int .i64 waits) :: (.int .i64 (made + 1)) :: (.int .i64 (k + 1)) :: (.pointer (some ⟨g29, 0, none⟩)) :: ((J25 17)) :: ((J25 18)) :: ((J25 19)) :: ((J25 20)) :: (.int .i64 size) :: (.bool false) :: (.bool false) :: (.int .i64 size) :: (.bool false) :: (.bool false) :: (.bool false) :: (.int .i64 room) :: (.bool false) :: (.bool false) :: (.bool false) :: (.int .i64 room) :: (.bool false) :: (.bool false) :: (.bool false) :: (.slice (some ad38) l.length cl) :: (.int .i64 (l.length : Int)) :: (.bool false) :: (.bool false) :: undef :: undef :: undef :: undef :: undef :: undef :: undef :: undef :: undef :: undef :: undef :: undef :: undef :: undef :: undef :: undef :: undef :: undef :: undef :: undef :: undef :: undef :: undef :: undef :: undef :: (.tuple #[.pointer (some ⟨gs21, 0, none⟩), .int .i64 0]) :: (.int .i64 size) :: (.int .i64 room) :: (.tuple #[.pointer (some ⟨gs21, 0, none⟩), .int .i64 0]) :: (.pointer (some ⟨gs21, 0, none⟩)) :: (.int .i64 0) :: (.pointer (some ⟨gs21, 0, none⟩)) :: (.bool false) :: (.bool false) :: (.int .i64 0) :: (.bool false) :: (.bool false) :: (.int .i64 k) :: (.slice (some ad38) l.length cl) :: (.int .i64 (l.length : Int)) :: (.bool true) :: (.int .i64 k) :: (.int .i64 (k + 1)) :: (.pointer (some ⟨gs21, 0, none⟩)) :: (.pointer (some ⟨g29, 0, none⟩)) :: (.int .i64 waits) :: (.bool false) :: ((J25 87)) :: ((J25 88)) :: (.int .i64 made) :: (.int .i64 (made + 1)) :: (.pointer (some ⟨g29, 0, none⟩)) :: (.bool false) :: (.bool false) :: (.pointer (some ⟨g29, 0, none⟩)) :: (.int .i64 size) :: (.int .i64 size) :: (.bool false) :: (.bool false) :: (.bool false) :: (.pointer (some ⟨g29, 0, none⟩)) :: (.int .i64 0) :: (.bool false) :: (.bool false) :: (.bool false) :: (.pointer (some ⟨gs21, 0, none⟩)) :: (.int .i64 (made + 1)) :: (.int .i64 (made + 1)) :: (.bool false) :: (.bool false) :: (.pointer (some ⟨g29, 0, none⟩)) :: (.slice (some ad38) l.length cl) :: (.int .i64 k) :: (.pointer (some (ad38.add k.toNat))) :: (.int .i64 (rdI l k)) :: (.bool (addB size ([]) (rdI l k))) :: (.pointer (some ⟨g29, 0, none⟩)) :: (.bool (addB size (addL size ([]) (rdI l k)) (0 : Int))) :: (.slice (some ad38) l.length cl) :: (.int .i64 k) :: (.pointer (some (ad38.add k.toNat))) :: (.int .i64 (rdI l k)) :: (.int .i64 (andI (rdI l k) 1)) :: (.bool false) :: ((J25 124)) :: ((J25 125)) :: ((J25 126)) :: ((J25 127)) :: ((J25 128)) :: ((J25 129)) :: ((J25 130)) :: ((J25 131)) :: ((J25 132)) :: ((J25 133)) :: ((J25 134)) :: ((J25 135)) :: ((J25 136)) :: ((J25 137)) :: ((J25 138)) :: ((J25 139)) :: ((J25 140)) :: ((J25 141)) :: ((J25 142)) :: ((J25 143)) :: ((J25 144)) :: ((J25 145)) :: ((J25 146)) :: ((J25 147)) :: ((J25 148)) :: ((J25 149)) :: ((J25 150)) :: ((J25 151)) :: ((J25 152)) :: ((J25 153)) :: ((J25 154)) :: ((J25 155)) :: ((J25 156)) :: ((J25 157)) :: ((J25 158)) :: ((J25 159)) :: ((J25 160)) :: ((J25 161)) :: ((J25 162)) :: ((J25 163)) :: ((J25 164)) :: undef :: []) k_ undef), k + 1, waits, (made + 1), ([] : List Ws), congrArg Fr (by kernel_rfl), rfl, by omega, by omega, by omega, by omega, (by (try simp only [List.length_append, List.length_cons, List.length_nil]); omega), (by (try simp only [List.length_append, List.length_cons, List.length_nil]); omega), (fun y hy => nomatch hy), HS⟩
              · skip
                have hwt1 : waits = (wl.length : Int) + 1 := by simpa using hwt
                have hwc : wl.length + 1 ≤ room.toNat := by simpa using hwl
                have hR1 : Rep ws1 size [] := hw (g1, A1, c1, ws1) (by simp)
                refine (stake_wait gs21 gp22 c23 ((room).toNat) size made g1 c1 A1 ws1 wl _ _ (St.focus (F := [blk gs21 [.pointer (some ⟨gp22, 0, none⟩), .int .i64 size, .int .i64 made] 67, blk gp22 [.chan (some c23)] 95, chn c23 ((room).toNat) ((wptr ((g1, A1, c1, ws1) :: wl)).map fun n : Nat => Value.pointer (some ⟨n, 0, none⟩)), many (rsE 77 74 size (wRw ((g1, A1, c1, ws1) :: wl)))]) HS)).mono ?_
                rintro e W67 ⟨rfl, H_⟩
                refine ⟨_, rfl, ?_⟩
                replace HS : St W (owns []) W67 [blk g1 [.slice A1 ws1.length c1, .int .i64 size] 77, row A1 ws1.length c1 (ci .u64 ws1) 74 1, blk gs21 [.pointer (some ⟨gp22, 0, none⟩), .int .i64 size, .int .i64 made] 67, blk gp22 [.chan (some c23)] 95, chn c23 ((room).toNat) ((wptr wl).map fun n : Nat => Value.pointer (some ⟨n, 0, none⟩)), many (rsE 77 74 size (wRw wl))] := HS.join (F := [blk gs21 [.pointer (some ⟨gp22, 0, none⟩), .int .i64 size, .int .i64 made] 67, blk gp22 [.chan (some c23)] 95, chn c23 ((room).toNat) ((wptr ((g1, A1, c1, ws1) :: wl)).map fun n : Nat => Value.pointer (some ⟨n, 0, none⟩)), many (rsE 77 74 size (wRw ((g1, A1, c1, ws1) :: wl)))]) (G := [blk g1 [.slice A1 ws1.length c1, .int .i64 size] 77, row A1 ws1.length c1 (ci .u64 ws1) 74 1, blk gs21 [.pointer (some ⟨gp22, 0, none⟩), .int .i64 size, .int .i64 made] 67, blk gp22 [.chan (some c23)] 95, chn c23 ((room).toNat) ((wptr wl).map fun n : Nat => Value.pointer (some ⟨n, 0, none⟩)), many (rsE 77 74 size (wRw wl))]) H_
                clear H_
                refine ql (.pointer (some ⟨g1, 0, none⟩)) (by kernel_rfl) (by kernel_rfl) ?_
                refine wpList_nil ?_
                refine x_then ?_
                refine wp_seq ?_
                refine wp_seq ?_
                refine wp_region_lit ?_
                refine ql (.int .i64 waits) (by kernel_rfl) (by kernel_rfl) ?_
                refine ql (.bool true) (by kernel_rfl) (R_bool (p := waits > (0 : Int)) (by kernel_rfl) (by omega)) ?_
                refine wpList_nil ?_
                refine x_then ?_
                refine wp_cond_true (by kernel_rfl) ?_
                refine wp_region_lit ?_
                refine ql (.int .i64 waits) (by kernel_rfl) (by kernel_rfl) ?_
                refine ql (.int .i64 (waits - 1)) (by kernel_rfl) (R_int (by kernel_rfl) (w64 (by omega))) ?_
                refine ql (.int .i64 (waits - 1)) (by kernel_rfl) (by kernel_rfl) ?_
                refine wpList_nil ?_
                refine x_then ?_
                refine wp_seq ?_
                refine wp_seq ?_
                refine wp_region_lit ?_
                refine ql (.pointer (some ⟨g1, 0, none⟩)) (by kernel_rfl) (by kernel_rfl) ?_
                refine ql (.bool false) (by kernel_rfl) (by kernel_rfl) ?_
                refine ql (.bool false) (by kernel_rfl) (by kernel_rfl) ?_
                refine ql (.pointer (some ⟨g1, 0, none⟩)) (by kernel_rfl) (by kernel_rfl) ?_
                refine qc (f := 21) (args := #[.pointer (some ⟨g1, 0, none⟩)]) (by kernel_rfl) (R_call #[.pointer (some ⟨g1, 0, none⟩)] Tryd.func21 (by kernel_rfl) (by kernel_rfl) (by kernel_rfl)) ?_
                refine (dsize g1 size _ (HS.cell (i := 0) (j := 1) rfl rfl)).mono ?_
                rintro e W68 ⟨rfl, H_⟩
                refine ⟨_, rfl, ?_⟩
                replace HS : St W (owns []) W68 [blk g1 [.slice A1 ws1.length c1, .int .i64 size] 77, row A1 ws1.length c1 (ci .u64 ws1) 74 1, blk gs21 [.pointer (some ⟨gp22, 0, none⟩), .int .i64 size, .int .i64 made] 67, blk gp22 [.chan (some c23)] 95, chn c23 ((room).toNat) ((wptr wl).map fun n : Nat => Value.pointer (some ⟨n, 0, none⟩)), many (rsE 77 74 size (wRw wl))] := HS.join (F := []) (G := []) H_
                clear H_
                refine ql (.int .i64 size) (by kernel_rfl) (by kernel_rfl) ?_
                refine ql (.bool false) (by kernel_rfl) (R_beq (b := (size != size)) (by kernel_rfl) (bne_f (by omega))) ?_
                refine ql (.bool false) (by kernel_rfl) (by kernel_rfl) ?_
                refine ql (.bool false) (by kernel_rfl) (by kernel_rfl) ?_
                refine ql (.pointer (some ⟨g1, 0, none⟩)) (by kernel_rfl) (by kernel_rfl) ?_
                refine qc (f := 22) (args := #[.pointer (some ⟨g1, 0, none⟩)]) (by kernel_rfl) (R_call #[.pointer (some ⟨g1, 0, none⟩)] Tryd.func22 (by kernel_rfl) (by kernel_rfl) (by kernel_rfl)) ?_
                refine (dcount g1 c1 A1 ws1 size [] _ (HS.cell (i := 0) (j := 0) rfl rfl) (HS.cell (i := 0) (j := 1) rfl rfl) (Rd.row HS (i := 1) rfl) hR1 (by omega)).mono ?_
                rintro e W69 ⟨rfl, H_⟩
                rw [show ((([] : List Int).length : Nat) : Int) = 0 from rfl]
                refine ⟨_, rfl, ?_⟩
                replace HS : St W (owns []) W69 [blk g1 [.slice A1 ws1.length c1, .int .i64 size] 77, row A1 ws1.length c1 (ci .u64 ws1) 74 1, blk gs21 [.pointer (some ⟨gp22, 0, none⟩), .int .i64 size, .int .i64 made] 67, blk gp22 [.chan (some c23)] 95, chn c23 ((room).toNat) ((wptr wl).map fun n : Nat => Value.pointer (some ⟨n, 0, none⟩)), many (rsE 77 74 size (wRw wl))] := HS.join (F := []) (G := []) H_
                clear H_
                refine ql (.bool false) (by kernel_rfl) (R_beq (b := ((0 : Int) != 0)) (by kernel_rfl) (by decide)) ?_
                refine ql (.bool false) (by kernel_rfl) (by kernel_rfl) ?_
                refine ql (.bool false) (by kernel_rfl) (by kernel_rfl) ?_
                refine ql (.pointer (some ⟨gs21, 0, none⟩)) (by kernel_rfl) (by kernel_rfl) ?_
                refine qc (f := 16) (args := #[.pointer (some ⟨gs21, 0, none⟩)]) (by kernel_rfl) (R_call #[.pointer (some ⟨gs21, 0, none⟩)] Tryd.func16 (by kernel_rfl) (by kernel_rfl) (by kernel_rfl)) ?_
                refine (smade gs21 made _ (HS.cell (i := 2) (j := 2) rfl rfl)).mono ?_
                rintro e W70 ⟨rfl, H_⟩
                refine ⟨_, rfl, ?_⟩
                replace HS : St W (owns []) W70 [blk g1 [.slice A1 ws1.length c1, .int .i64 size] 77, row A1 ws1.length c1 (ci .u64 ws1) 74 1, blk gs21 [.pointer (some ⟨gp22, 0, none⟩), .int .i64 size, .int .i64 made] 67, blk gp22 [.chan (some c23)] 95, chn c23 ((room).toNat) ((wptr wl).map fun n : Nat => Value.pointer (some ⟨n, 0, none⟩)), many (rsE 77 74 size (wRw wl))] := HS.join (F := []) (G := []) H_
                clear H_
                refine ql (.int .i64 made) (by kernel_rfl) (by kernel_rfl) ?_
                refine ql (.bool false) (by kernel_rfl) (R_beq (b := (made != made)) (by kernel_rfl) (bne_f (by omega))) ?_
                refine ql (.bool false) (by kernel_rfl) (by kernel_rfl) ?_
                refine wpList_nil ?_
                refine x_then ?_
                refine wp_cond_false (by kernel_rfl) ?_
                refine wp_skip ?_
                refine x_then ?_
                refine wp_seq ?_
                refine wp_region_lit ?_
                refine ql (.pointer (some ⟨g1, 0, none⟩)) (by kernel_rfl) (by kernel_rfl) ?_
                refine ql (.slice Al l.length cl) (by kernel_rfl) (by kernel_rfl) ?_
                refine ql (.int .i64 k) (by kernel_rfl) (by kernel_rfl) ?_
                obtain ⟨ad71, rfl⟩ := Rd.isSome_ hra (by rw [ci_len]; omega)
                refine ql (.pointer (some (ad71.add k.toNat))) (by kernel_rfl) (R_indexA1 (k := .i64) (p := ad71) (n := l.length) (c := cl) (i := k) (by kernel_rfl) (by kernel_rfl) Tryd.underlying38 (by kernel_rfl) (by omega) (by omega)) ?_
                refine ql (.int .i64 (rdI l k)) (by kernel_rfl) (R_load (p := ad71.add k.toNat) (by kernel_rfl) (by kernel_rfl) (by kernel_rfl) (HS.old0 (hra.at_ (ci_rd (i := k) (by omega) (by omega))))) ?_
                refine qc (f := 18) (args := #[.pointer (some ⟨g1, 0, none⟩), .int .i64 (rdI l k)]) (by kernel_rfl) (R_call #[.pointer (some ⟨g1, 0, none⟩), .int .i64 (rdI l k)] Tryd.func18 (by kernel_rfl) (by kernel_rfl) (by kernel_rfl)) ?_
                refine (daddu g1 c1 A1 ws1 size ([]) (rdI l k) _ _ (St.focus (F := [blk g1 [.slice A1 ws1.length c1, .int .i64 size] 77, row A1 ws1.length c1 (ci .u64 ws1) 74 1]) HS) hR1 (by omega)).mono ?_
                rintro e W74 ⟨ws72, rfl, H_, hR73⟩
                refine ⟨_, rfl, ?_⟩
                replace HS : St W (owns []) W74 [blk g1 [.slice A1 ws72.length c1, .int .i64 size] 77, row A1 ws72.length c1 (ci .u64 ws72) 74 1, blk gs21 [.pointer (some ⟨gp22, 0, none⟩), .int .i64 size, .int .i64 made] 67, blk gp22 [.chan (some c23)] 95, chn c23 ((room).toNat) ((wptr wl).map fun n : Nat => Value.pointer (some ⟨n, 0, none⟩)), many (rsE 77 74 size (wRw wl))] := HS.join (F := [blk g1 [.slice A1 ws1.length c1, .int .i64 size] 77, row A1 ws1.length c1 (ci .u64 ws1) 74 1]) (G := [blk g1 [.slice A1 ws72.length c1, .int .i64 size] 77, row A1 ws72.length c1 (ci .u64 ws72) 74 1]) H_
                clear H_
                refine wpList_nil ?_
                refine x_then ?_
                refine wp_seq ?_
                refine wp_region_lit ?_
                refine ql (.pointer (some ⟨g1, 0, none⟩)) (by kernel_rfl) (by kernel_rfl) ?_
                refine qc (f := 18) (args := #[.pointer (some ⟨g1, 0, none⟩), .int .i64 0]) (by kernel_rfl) (R_call #[.pointer (some ⟨g1, 0, none⟩), .int .i64 0] Tryd.func18 (by kernel_rfl) (by kernel_rfl) (by kernel_rfl)) ?_
                refine (daddu g1 c1 A1 ws72 size (addL size ([]) (rdI l k)) (0 : Int) _ _ (St.focus (F := [blk g1 [.slice A1 ws72.length c1, .int .i64 size] 77, row A1 ws72.length c1 (ci .u64 ws72) 74 1]) HS) hR73 (by omega)).mono ?_
                rintro e W77 ⟨ws75, rfl, H_, hR76⟩
                refine ⟨_, rfl, ?_⟩
                replace HS : St W (owns []) W77 [blk g1 [.slice A1 ws75.length c1, .int .i64 size] 77, row A1 ws75.length c1 (ci .u64 ws75) 74 1, blk gs21 [.pointer (some ⟨gp22, 0, none⟩), .int .i64 size, .int .i64 made] 67, blk gp22 [.chan (some c23)] 95, chn c23 ((room).toNat) ((wptr wl).map fun n : Nat => Value.pointer (some ⟨n, 0, none⟩)), many (rsE 77 74 size (wRw wl))] := HS.join (F := [blk g1 [.slice A1 ws72.length c1, .int .i64 size] 77, row A1 ws72.length c1 (ci .u64 ws72) 74 1]) (G := [blk g1 [.slice A1 ws75.length c1, .int .i64 size] 77, row A1 ws75.length c1 (ci .u64 ws75) 74 1]) H_
                clear H_
                refine wpList_nil ?_
                refine x_then ?_
                refine wp_seq ?_
                refine wp_region_lit ?_
                refine ql (.slice (some ad71) l.length cl) (by kernel_rfl) (by kernel_rfl) ?_
                refine ql (.int .i64 k) (by kernel_rfl) (by kernel_rfl) ?_
                refine ql (.pointer (some (ad71.add k.toNat))) (by kernel_rfl) (R_indexA1 (k := .i64) (p := ad71) (n := l.length) (c := cl) (i := k) (by kernel_rfl) (by kernel_rfl) Tryd.underlying38 (by kernel_rfl) (by omega) (by omega)) ?_
                refine ql (.int .i64 (rdI l k)) (by kernel_rfl) (R_load (p := ad71.add k.toNat) (by kernel_rfl) (by kernel_rfl) (by kernel_rfl) (HS.old0 (hra.at_ (ci_rd (i := k) (by omega) (by omega))))) ?_
                refine ql (.int .i64 (andI (rdI l k) 1)) (by kernel_rfl) (R_andI (i := rdI l k) (j := 1) (by kernel_rfl) (by kernel_rfl)) ?_
                by_cases hc78 : (andI (rdI l k) 1) = (0 : Int)
                · skip
                  refine ql (.bool true) (by kernel_rfl) (R_beq (b := (andI (rdI l k) 1 == (0 : Int))) (by kernel_rfl) (beq_t (hc78))) ?_
                  refine wpList_nil ?_
                  refine x_then ?_
                  refine wp_cond_true (by kernel_rfl) ?_
                  refine wp_seq ?_
                  refine wp_seq ?_
                  refine wp_region_lit ?_
                  refine ql (.pointer (some ⟨gs21, 0, none⟩)) (by kernel_rfl) (by kernel_rfl) ?_
                  refine ql (.pointer (some ⟨g1, 0, none⟩)) (by kernel_rfl) (by kernel_rfl) ?_
                  refine qc (f := 15) (args := #[.pointer (some ⟨gs21, 0, none⟩), .pointer (some ⟨g1, 0, none⟩)]) (by kernel_rfl) (R_call #[.pointer (some ⟨gs21, 0, none⟩), .pointer (some ⟨g1, 0, none⟩)] Tryd.func15 (by kernel_rfl) (by kernel_rfl) (by kernel_rfl)) ?_
                  have hno := HS.no0 (F := [blk g1 [.slice A1 ws75.length c1, .int .i64 size] 77, row A1 ws75.length c1 (ci .u64 ws75) 74 1, blk gs21 [.pointer (some ⟨gp22, 0, none⟩), .int .i64 size, .int .i64 made] 67, blk gp22 [.chan (some c23)] 95, chn c23 ((room).toNat) ((wptr wl).map fun n : Nat => Value.pointer (some ⟨n, 0, none⟩)), many (rsE 77 74 size (wRw wl))]) hT.pos
                  have hTc := hT.old0 HS
                  refine (sgive_room gs21 gp22 c23 ((room).toNat) size made g1 c1 A1 ws75 (addL size (addL size ([]) (rdI l k)) (0 : Int)) wl _ _ (St.focus (F := [blk g1 [.slice A1 ws75.length c1, .int .i64 size] 77, row A1 ws75.length c1 (ci .u64 ws75) 74 1, blk gs21 [.pointer (some ⟨gp22, 0, none⟩), .int .i64 size, .int .i64 made] 67, blk gp22 [.chan (some c23)] 95, chn c23 ((room).toNat) ((wptr wl).map fun n : Nat => Value.pointer (some ⟨n, 0, none⟩)), many (rsE 77 74 size (wRw wl))]) HS) hno hTc hR76 (by omega) (by (try simp only [List.length_append, List.length_cons, List.length_nil]); omega)).mono ?_
                  rintro e W81 ⟨ws79, rfl, H_, hR80⟩
                  refine ⟨_, rfl, ?_⟩
                  replace HS : St W (owns []) W81 [blk gs21 [.pointer (some ⟨gp22, 0, none⟩), .int .i64 size, .int .i64 made] 67, blk gp22 [.chan (some c23)] 95, chn c23 ((room).toNat) ((wptr (wl ++ [((g1, A1, c1, ws79) : Ws)])).map fun n : Nat => Value.pointer (some ⟨n, 0, none⟩)), many (rsE 77 74 size (wRw (wl ++ [((g1, A1, c1, ws79) : Ws)])))] := HS.join (F := [blk g1 [.slice A1 ws75.length c1, .int .i64 size] 77, row A1 ws75.length c1 (ci .u64 ws75) 74 1, blk gs21 [.pointer (some ⟨gp22, 0, none⟩), .int .i64 size, .int .i64 made] 67, blk gp22 [.chan (some c23)] 95, chn c23 ((room).toNat) ((wptr wl).map fun n : Nat => Value.pointer (some ⟨n, 0, none⟩)), many (rsE 77 74 size (wRw wl))]) (G := [blk gs21 [.pointer (some ⟨gp22, 0, none⟩), .int .i64 size, .int .i64 made] 67, blk gp22 [.chan (some c23)] 95, chn c23 ((room).toNat) ((wptr (wl ++ [((g1, A1, c1, ws79) : Ws)])).map fun n : Nat => Value.pointer (some ⟨n, 0, none⟩)), many (rsE 77 74 size (wRw (wl ++ [((g1, A1, c1, ws79) : Ws)])))]) H_
                  clear H_
                  refine ql (.int .i64 (waits - 1)) (by kernel_rfl) (by kernel_rfl) ?_
                  refine ql (.int .i64 room) (by kernel_rfl) (by kernel_rfl) ?_
                  refine ql (.bool true) (by kernel_rfl) (R_bool (p := (waits - 1) < room) (by kernel_rfl) (by omega)) ?_
                  refine ql (.bool false) (by kernel_rfl) (by kernel_rfl) ?_
                  refine wpList_nil ?_
                  refine x_then ?_
                  refine wp_cond_false (by kernel_rfl) ?_
                  refine wp_skip ?_
                  refine x_then ?_
                  refine wp_seq ?_
                  refine wp_region_lit ?_
                  refine ql (.int .i64 (waits - 1)) (by kernel_rfl) (by kernel_rfl) ?_
                  refine ql (.int .i64 ((waits - 1) + 1)) (by kernel_rfl) (R_int (by kernel_rfl) (w64 (by omega))) ?_
                  refine ql (.int .i64 ((waits - 1) + 1)) (by kernel_rfl) (by kernel_rfl) ?_
                  refine wpList_nil ?_
                  refine x_then ?_
                  refine wp_seq ?_
                  refine wp_region_lit ?_
                  refine ql (.int .i64 size) (by kernel_rfl) (by kernel_rfl) ?_
                  refine ql (.int .i64 room) (by kernel_rfl) (by kernel_rfl) ?_
                  refine qc (f := 17) (args := #[.int .i64 size, .int .i64 room]) (by kernel_rfl) (R_call #[.int .i64 size, .int .i64 room] Tryd.func17 (by kernel_rfl) (by kernel_rfl) (by kernel_rfl)) ?_
                  refine (nsets_ok size room _ (by omega) (by omega) (by omega) (by omega)).mono ?_
                  rintro e W85 ⟨gs82, gp83, c84, rfl, H_⟩
                  refine ⟨_, rfl, ?_⟩
                  replace HS : St W (owns []) W85 [blk gs82 [.pointer (some ⟨gp83, 0, none⟩), .int .i64 size, .int .i64 0] 67, blk gp83 [.chan (some c84)] 95, chn c84 ((room).toNat) ((wptr ([] : List Ws)).map fun n : Nat => Value.pointer (some ⟨n, 0, none⟩)), many (rsE 77 74 size (wRw ([] : List Ws))), blk gs21 [.pointer (some ⟨gp22, 0, none⟩), .int .i64 size, .int .i64 made] 67, blk gp22 [.chan (some c23)] 95, chn c23 ((room).toNat) ((wptr (wl ++ [((g1, A1, c1, ws79) : Ws)])).map fun n : Nat => Value.pointer (some ⟨n, 0, none⟩)), many (rsE 77 74 size (wRw (wl ++ [((g1, A1, c1, ws79) : Ws)])))] := HS.join (F := []) (G := [blk gs82 [.pointer (some ⟨gp83, 0, none⟩), .int .i64 size, .int .i64 0] 67, blk gp83 [.chan (some c84)] 95, chn c84 ((room).toNat) ((wptr ([] : List Ws)).map fun n : Nat => Value.pointer (some ⟨n, 0, none⟩)), many (rsE 77 74 size (wRw ([] : List Ws)))]) H_
                  clear H_
                  refine ql (.tuple #[.pointer (some ⟨gs82, 0, none⟩), .int .i64 0]) (by kernel_rfl) (by kernel_rfl) ?_
                  refine ql (.pointer (some ⟨gs82, 0, none⟩)) (by kernel_rfl) (by kernel_rfl) ?_
                  refine ql (.int .i64 0) (by kernel_rfl) (by kernel_rfl) ?_
                  refine ql (.pointer (some ⟨gs82, 0, none⟩)) (by kernel_rfl) (by kernel_rfl) ?_
                  refine ql (.int .i64 0) (by kernel_rfl) (by kernel_rfl) ?_
                  refine wpList_nil ?_
                  refine x_then ?_
                  refine wp_seq ?_
                  refine wp_region_lit ?_
                  refine ql (.pointer (some ⟨gs82, 0, none⟩)) (by kernel_rfl) (by kernel_rfl) ?_
                  refine qc (f := 14) (args := #[.pointer (some ⟨gs82, 0, none⟩)]) (by kernel_rfl) (R_call #[.pointer (some ⟨gs82, 0, none⟩)] Tryd.func14 (by kernel_rfl) (by kernel_rfl) (by kernel_rfl)) ?_
                  refine (stake_new gs82 gp83 c84 ((room).toNat) size (0 : Int) _ _ (St.focus (F := [blk gs82 [.pointer (some ⟨gp83, 0, none⟩), .int .i64 size, .int .i64 0] 67, blk gp83 [.chan (some c84)] 95, chn c84 ((room).toNat) ((wptr ([] : List Ws)).map fun n : Nat => Value.pointer (some ⟨n, 0, none⟩)), many (rsE 77 74 size (wRw ([] : List Ws)))]) HS) (by omega) (by omega) (by omega) (by omega)).mono ?_
                  rintro e W91 ⟨g86, a87, c88, ws89, rfl, H_, hR90⟩
                  refine ⟨_, rfl, ?_⟩
                  replace HS : St W (owns []) W91 [blk g86 [.slice (some ⟨a87, 0, none⟩) ws89.length c88, .int .i64 size] 77, row (some ⟨a87, 0, none⟩) ws89.length c88 (ci .u64 ws89) 74 1, blk gs82 [.pointer (some ⟨gp83, 0, none⟩), .int .i64 size, .int .i64 (0 + 1)] 67, blk gp83 [.chan (some c84)] 95, chn c84 ((room).toNat) ((wptr ([] : List Ws)).map fun n : Nat => Value.pointer (some ⟨n, 0, none⟩)), many (rsE 77 74 size (wRw ([] : List Ws))), blk gs21 [.pointer (some ⟨gp22, 0, none⟩), .int .i64 size, .int .i64 made] 67, blk gp22 [.chan (some c23)] 95, chn c23 ((room).toNat) ((wptr (wl ++ [((g1, A1, c1, ws79) : Ws)])).map fun n : Nat => Value.pointer (some ⟨n, 0, none⟩)), many (rsE 77 74 size (wRw (wl ++ [((g1, A1, c1, ws79) : Ws)])))] := HS.join (F := [blk gs82 [.pointer (some ⟨gp83, 0, none⟩), .int .i64 size, .int .i64 0] 67, blk gp83 [.chan (some c84)] 95, chn c84 ((room).toNat) ((wptr ([] : List Ws)).map fun n : Nat => Value.pointer (some ⟨n, 0, none⟩)), many (rsE 77 74 size (wRw ([] : List Ws)))]) (G := [blk g86 [.slice (some ⟨a87, 0, none⟩) ws89.length c88, .int .i64 size] 77, row (some ⟨a87, 0, none⟩) ws89.length c88 (ci .u64 ws89) 74 1, blk gs82 [.pointer (some ⟨gp83, 0, none⟩), .int .i64 size, .int .i64 (0 + 1)] 67, blk gp83 [.chan (some c84)] 95, chn c84 ((room).toNat) ((wptr ([] : List Ws)).map fun n : Nat => Value.pointer (some ⟨n, 0, none⟩)), many (rsE 77 74 size (wRw ([] : List Ws)))]) H_
                  clear H_
                  refine ql (.pointer (some ⟨g86, 0, none⟩)) (by kernel_rfl) (by kernel_rfl) ?_
                  refine wpList_nil ?_
                  refine x_then ?_
                  refine wp_seq ?_
                  refine wp_region_lit ?_
                  refine ql (.pointer (some ⟨g86, 0, none⟩)) (by kernel_rfl) (by kernel_rfl) ?_
                  refine qc (f := 18) (args := #[.pointer (some ⟨g86, 0, none⟩), .int .i64 0]) (by kernel_rfl) (R_call #[.pointer (some ⟨g86, 0, none⟩), .int .i64 0] Tryd.func18 (by kernel_rfl) (by kernel_rfl) (by kernel_rfl)) ?_
                  refine (daddu g86 c88 (some ⟨a87, 0, none⟩) ws89 size ([]) (0 : Int) _ _ (St.focus (F := [blk g86 [.slice (some ⟨a87, 0, none⟩) ws89.length c88, .int .i64 size] 77, row (some ⟨a87, 0, none⟩) ws89.length c88 (ci .u64 ws89) 74 1]) HS) hR90 (by omega)).mono ?_
                  rintro e W94 ⟨ws92, rfl, H_, hR93⟩
                  refine ⟨_, rfl, ?_⟩
                  replace HS : St W (owns []) W94 [blk g86 [.slice (some ⟨a87, 0, none⟩) ws92.length c88, .int .i64 size] 77, row (some ⟨a87, 0, none⟩) ws92.length c88 (ci .u64 ws92) 74 1, blk gs82 [.pointer (some ⟨gp83, 0, none⟩), .int .i64 size, .int .i64 (0 + 1)] 67, blk gp83 [.chan (some c84)] 95, chn c84 ((room).toNat) ((wptr ([] : List Ws)).map fun n : Nat => Value.pointer (some ⟨n, 0, none⟩)), many (rsE 77 74 size (wRw ([] : List Ws))), blk gs21 [.pointer (some ⟨gp22, 0, none⟩), .int .i64 size, .int .i64 made] 67, blk gp22 [.chan (some c23)] 95, chn c23 ((room).toNat) ((wptr (wl ++ [((g1, A1, c1, ws79) : Ws)])).map fun n : Nat => Value.pointer (some ⟨n, 0, none⟩)), many (rsE 77 74 size (wRw (wl ++ [((g1, A1, c1, ws79) : Ws)])))] := HS.join (F := [blk g86 [.slice (some ⟨a87, 0, none⟩) ws89.length c88, .int .i64 size] 77, row (some ⟨a87, 0, none⟩) ws89.length c88 (ci .u64 ws89) 74 1]) (G := [blk g86 [.slice (some ⟨a87, 0, none⟩) ws92.length c88, .int .i64 size] 77, row (some ⟨a87, 0, none⟩) ws92.length c88 (ci .u64 ws92) 74 1]) H_
                  clear H_
                  refine wpList_nil ?_
                  refine x_then ?_
                  refine wp_seq ?_
                  refine wp_region_lit ?_
                  refine ql (.pointer (some ⟨gs21, 0, none⟩)) (by kernel_rfl) (by kernel_rfl) ?_
                  refine ql (.pointer (some ⟨g86, 0, none⟩)) (by kernel_rfl) (by kernel_rfl) ?_
                  refine qc (f := 15) (args := #[.pointer (some ⟨gs21, 0, none⟩), .pointer (some ⟨g86, 0, none⟩)]) (by kernel_rfl) (R_call #[.pointer (some ⟨gs21, 0, none⟩), .pointer (some ⟨g86, 0, none⟩)] Tryd.func15 (by kernel_rfl) (by kernel_rfl) (by kernel_rfl)) ?_
                  replace HS : St W (owns []) W94 [blk g86 [.slice (some ⟨a87, 0, none⟩) ws92.length c88, .int .i64 size] 77, row (some ⟨a87, 0, none⟩) ws92.length c88 (ci .u64 ws92) 74 1, blk gs21 [.pointer (some ⟨gp22, 0, none⟩), .int .i64 size, .int .i64 made] 67, blk gp22 [.chan (some c23)] 95, chn c23 ((room).toNat) ((wptr (wl ++ [((g1, A1, c1, ws79) : Ws)])).map fun n : Nat => Value.pointer (some ⟨n, 0, none⟩)), many (rsE 77 74 size (wRw (wl ++ [((g1, A1, c1, ws79) : Ws)]))), blk gs82 [.pointer (some ⟨gp83, 0, none⟩), .int .i64 size, .int .i64 (0 + 1)] 67, blk gp83 [.chan (some c84)] 95, chn c84 ((room).toNat) ((wptr ([] : List Ws)).map fun n : Nat => Value.pointer (some ⟨n, 0, none⟩)), many (rsE 77 74 size (wRw ([] : List Ws)))] := HS.perm (perm_ [0, 1, 6, 7, 8, 9, 2, 3, 4, 5] (by kernel_rfl) rfl)
                  have hno := HS.no0 (F := [blk g86 [.slice (some ⟨a87, 0, none⟩) ws92.length c88, .int .i64 size] 77, row (some ⟨a87, 0, none⟩) ws92.length c88 (ci .u64 ws92) 74 1, blk gs21 [.pointer (some ⟨gp22, 0, none⟩), .int .i64 size, .int .i64 made] 67, blk gp22 [.chan (some c23)] 95, chn c23 ((room).toNat) ((wptr (wl ++ [((g1, A1, c1, ws79) : Ws)])).map fun n : Nat => Value.pointer (some ⟨n, 0, none⟩)), many (rsE 77 74 size (wRw (wl ++ [((g1, A1, c1, ws79) : Ws)])))]) hT.pos
                  have hTc := hT.old0 HS
                  by_cases hv8 : (wl ++ [((g1, A1, c1, ws79) : Ws)]).length < room.toNat
                  · skip
                    have hrm := hv8; (try simp only [List.length_append, List.length_cons, List.length_nil] at hrm)
                    refine (sgive_room gs21 gp22 c23 ((room).toNat) size made g86 c88 (some ⟨a87, 0, none⟩) ws92 (addL size ([]) (0 : Int)) (wl ++ [((g1, A1, c1, ws79) : Ws)]) _ _ (St.focus (F := [blk g86 [.slice (some ⟨a87, 0, none⟩) ws92.length c88, .int .i64 size] 77, row (some ⟨a87, 0, none⟩) ws92.length c88 (ci .u64 ws92) 74 1, blk gs21 [.pointer (some ⟨gp22, 0, none⟩), .int .i64 size, .int .i64 made] 67, blk gp22 [.chan (some c23)] 95, chn c23 ((room).toNat) ((wptr (wl ++ [((g1, A1, c1, ws79) : Ws)])).map fun n : Nat => Value.pointer (some ⟨n, 0, none⟩)), many (rsE 77 74 size (wRw (wl ++ [((g1, A1, c1, ws79) : Ws)])))]) HS) hno hTc hR93 (by omega) (by (try simp only [List.length_append, List.length_cons, List.length_nil]); omega)).mono ?_
                    rintro e W97 ⟨ws95, rfl, H_, hR96⟩
                    refine ⟨_, rfl, ?_⟩
                    replace HS : St W (owns []) W97 [blk gs21 [.pointer (some ⟨gp22, 0, none⟩), .int .i64 size, .int .i64 made] 67, blk gp22 [.chan (some c23)] 95, chn c23 ((room).toNat) ((wptr ((wl ++ [((g1, A1, c1, ws79) : Ws)]) ++ [((g86, (some ⟨a87, 0, none⟩), c88, ws95) : Ws)])).map fun n : Nat => Value.pointer (some ⟨n, 0, none⟩)), many (rsE 77 74 size (wRw ((wl ++ [((g1, A1, c1, ws79) : Ws)]) ++ [((g86, (some ⟨a87, 0, none⟩), c88, ws95) : Ws)]))), blk gs82 [.pointer (some ⟨gp83, 0, none⟩), .int .i64 size, .int .i64 (0 + 1)] 67, blk gp83 [.chan (some c84)] 95, chn c84 ((room).toNat) ((wptr ([] : List Ws)).map fun n : Nat => Value.pointer (some ⟨n, 0, none⟩)), many (rsE 77 74 size (wRw ([] : List Ws)))] := HS.join (F := [blk g86 [.slice (some ⟨a87, 0, none⟩) ws92.length c88, .int .i64 size] 77, row (some ⟨a87, 0, none⟩) ws92.length c88 (ci .u64 ws92) 74 1, blk gs21 [.pointer (some ⟨gp22, 0, none⟩), .int .i64 size, .int .i64 made] 67, blk gp22 [.chan (some c23)] 95, chn c23 ((room).toNat) ((wptr (wl ++ [((g1, A1, c1, ws79) : Ws)])).map fun n : Nat => Value.pointer (some ⟨n, 0, none⟩)), many (rsE 77 74 size (wRw (wl ++ [((g1, A1, c1, ws79) : Ws)])))]) (G := [blk gs21 [.pointer (some ⟨gp22, 0, none⟩), .int .i64 size, .int .i64 made] 67, blk gp22 [.chan (some c23)] 95, chn c23 ((room).toNat) ((wptr ((wl ++ [((g1, A1, c1, ws79) : Ws)]) ++ [((g86, (some ⟨a87, 0, none⟩), c88, ws95) : Ws)])).map fun n : Nat => Value.pointer (some ⟨n, 0, none⟩)), many (rsE 77 74 size (wRw ((wl ++ [((g1, A1, c1, ws79) : Ws)]) ++ [((g86, (some ⟨a87, 0, none⟩), c88, ws95) : Ws)])))]) H_
                    clear H_
                    refine ql (.bool true) (by kernel_rfl) (by kernel_rfl) ?_
                    refine wpList_nil ?_
                    refine x_then ?_
                    refine wp_seq ?_
                    refine wp_seq ?_
                    refine wp_region_lit ?_
                    refine ql (.bool true) (by kernel_rfl) (by kernel_rfl) ?_
                    refine ql (.int .i64 ((waits - 1) + 1)) (by kernel_rfl) (by kernel_rfl) ?_
                    refine ql (.int .i64 room) (by kernel_rfl) (by kernel_rfl) ?_
                    refine ql (.bool true) (by kernel_rfl) (R_bool (p := ((waits - 1) + 1) < room) (by kernel_rfl) (by omega)) ?_
                    refine ql (.bool false) (by kernel_rfl) (by kernel_rfl) ?_
                    refine ql (.bool false) (by kernel_rfl) (by kernel_rfl) ?_
                    refine ql (.bool true) (by kernel_rfl) (by kernel_rfl) ?_
                    refine ql (.bool false) (by kernel_rfl) (by kernel_rfl) ?_
                    refine ql (.bool false) (by kernel_rfl) (by kernel_rfl) ?_
                    refine qln (by kernel_rfl) ?_
                    refine qln (by kernel_rfl) ?_
                    refine qln (by kernel_rfl) ?_
                    refine ql (.bool false) (by kernel_rfl) (by kernel_rfl) ?_
                    refine ql (.bool false) (by kernel_rfl) (by kernel_rfl) ?_
                    refine wpList_nil ?_
                    refine x_then ?_
                    refine wp_cond_false (by kernel_rfl) ?_
                    refine wp_skip ?_
                    refine x_then ?_
                    refine wp_seq ?_
                    refine wp_region_lit ?_
                    refine ql (.int .i64 ((waits - 1) + 1)) (by kernel_rfl) (by kernel_rfl) ?_
                    refine ql (.int .i64 room) (by kernel_rfl) (by kernel_rfl) ?_
                    refine ql (.bool true) (by kernel_rfl) (R_bool (p := ((waits - 1) + 1) < room) (by kernel_rfl) (by omega)) ?_
                    refine wpList_nil ?_
                    refine x_then ?_
                    refine wp_cond_true (by kernel_rfl) ?_
                    refine wp_region_lit ?_
                    refine ql (.int .i64 ((waits - 1) + 1)) (by kernel_rfl) (by kernel_rfl) ?_
                    refine ql (.int .i64 (((waits - 1) + 1) + 1)) (by kernel_rfl) (R_int (by kernel_rfl) (w64 (by omega))) ?_
                    refine ql (.int .i64 (((waits - 1) + 1) + 1)) (by kernel_rfl) (by kernel_rfl) ?_
                    refine wpList_nil ?_
                    refine x_inb ?_
                    refine x_then ?_
                    refine wp_region_lit ?_
                    refine ql (.int .i64 k) (by kernel_rfl) (by kernel_rfl) ?_
                    refine ql (.int .i64 (k + 1)) (by kernel_rfl) (R_int (by kernel_rfl) (w64 (by omega))) ?_
                    refine ql (.int .i64 (k + 1)) (by kernel_rfl) (by kernel_rfl) ?_
                    refine wpList_nil ?_
                    replace HS : St W (owns []) W97 [blk gs21 [.pointer (some ⟨gp22, 0, none⟩), .int .i64 size, .int .i64 made] 67, blk gp22 [.chan (some c23)] 95, chn c23 ((room).toNat) ((wptr ((wl ++ [((g1, A1, c1, ws79) : Ws)]) ++ [((g86, (some ⟨a87, 0, none⟩), c88, ws95) : Ws)])).map fun n : Nat => Value.pointer (some ⟨n, 0, none⟩)), many (rsE 77 74 size (wRw ((wl ++ [((g1, A1, c1, ws79) : Ws)]) ++ [((g86, (some ⟨a87, 0, none⟩), c88, ws95) : Ws)])))] := St.tail (F := [blk gs82 [.pointer (some ⟨gp83, 0, none⟩), .int .i64 size, .int .i64 (0 + 1)] 67, blk gp83 [.chan (some c84)] 95, chn c84 ((room).toNat) ((wptr ([] : List Ws)).map fun n : Nat => Value.pointer (some ⟨n, 0, none⟩)), many (rsE 77 74 size (wRw ([] : List Ws)))]) (HS.perm (perm_ [4, 5, 6, 7, 0, 1, 2, 3] (by kernel_rfl) rfl))
                    refine x_then ?_
                    exact ⟨l.length - (k + 1).toNat, by omega, (fun k_ : Nat => List.getD ((.int .i64 size) :: (.int .i64 room) :: (.slice (some ad71) l.length cl) :: undef :: undef :: undef :: ((J25 6)) :: undef :: undef :: undef :: undef :: (.pointer (some ⟨gs21, 0, none⟩)) :: (.int .i64 0) :: (.int .i64 (((waits - 1) + 1) + 1)) :: (.int .i64 made) :: (.int .i64 (k + 1)) :: (.pointer (some ⟨g1, 0, none⟩)) :: (.pointer (some ⟨gs82, 0, none⟩)) :: (.int .i64 0) :: (.pointer (some ⟨g86, 0, none⟩)) :: (.bool true) :: (.int .i64 size) :: (.bool false) :: (.bool false) :: (.int .i64 size) :: (.bool false) :: (.bool false) :: (.bool false) :: (.int .i64 room) :: (.bool false) :: (.bool false) :: (.bool false) :: (.int .i64 room) :: (.bool false) :: (.bool false) :: (.bool false) :: (.slice (some ad71) l.length cl) :: (.int .i64 (l.length : Int)) :: (.bool false) :: (.bool false) :: undef :: undef :: undef :: undef :: undef :: undef :: undef :: undef :: undef :: undef :: undef :: undef :: undef :: undef :: undef :: undef :: undef :: undef :: undef :: undef :: undef :: undef :: undef :: undef :: undef :: (.tuple #[.pointer (some ⟨gs21, 0, none⟩), .int .i64 0]) :: (.int .i64 size) :: (.int .i64 room) :: (.tuple #[.pointer (some ⟨gs21, 0, none⟩), .int .i64 0]) :: (.pointer (some ⟨gs21, 0, none⟩)) :: (.int .i64 0) :: (.pointer (some ⟨gs21, 0, none⟩)) :: (.bool false) :: (.bool false) :: (.int .i64 0) :: (.bool false) :: (.bool false) :: (.int .i64 k) :: (.slice (some ad71) l.length cl) :: (.int .i64 (l.length : Int)) :: (.bool true) :: (.int .i64 k) :: (.int .i64 (k + 1)) :: (.pointer (some ⟨gs21, 0, none⟩)) :: (.pointer (some ⟨g1, 0, none⟩)) :: (.int .i64 waits) :: (.bool true) :: (.int .i64 waits) :: (.int .i64 (waits - 1)) :: ((J25 89)) :: ((J25 90)) :: (.pointer (some ⟨g1, 0, none⟩)) :: (.bool false) :: (.bool false) :: (.pointer (some ⟨g1, 0, none⟩)) :: (.int .i64 size) :: (.int .i64 size) :: (.bool false) :: (.bool false) :: (.bool false) :: (.pointer (some ⟨g1, 0, none⟩)) :: (.int .i64 0) :: (.bool false) :: (.bool false) :: (.bool false) :: (.pointer (some ⟨gs21, 0, none⟩)) :: (.int .i64 made) :: (.int .i64 made) :: (.bool false) :: (.bool false) :: (.pointer (some ⟨g1, 0, none⟩)) :: (.slice (some ad71) l.length cl) :: (.int .i64 k) :: (.pointer (some (ad71.add k.toNat))) :: (.int .i64 (rdI l k)) :: (.bool (addB size ([]) (rdI l k))) :: (.pointer (some ⟨g1, 0, none⟩)) :: (.bool (addB size (addL size ([]) (rdI l k)) (0 : Int))) :: (.slice (some ad71) l.length cl) :: (.int .i64 k) :: (.pointer (some (ad71.add k.toNat))) :: (.int .i64 (rdI l k)) :: (.int .i64 (andI (rdI l k) 1)) :: (.bool true) :: (.pointer (some ⟨gs21, 0, none⟩)) :: (.pointer (some ⟨g1, 0, none⟩)) :: (.bool true) :: (.int .i64 (waits - 1)) :: (.int .i64 room) :: (.bool true) :: (.bool false) :: (.int .i64 (waits - 1)) :: (.int .i64 ((waits - 1) + 1)) :: (.tuple #[.pointer (some ⟨gs82, 0, none⟩), .int .i64 0]) :: (.int .i64 size) :: (.int .i64 room) :: (.tuple #[.pointer (some ⟨gs82, 0, none⟩), .int .i64 0]) :: (.pointer (some ⟨gs82, 0, none⟩)) :: (.int .i64 0) :: (.pointer (some ⟨gs82, 0, none⟩)) :: (.pointer (some ⟨g86, 0, none⟩)) :: (.pointer (some ⟨g86, 0, none⟩)) :: (.bool (addB size ([]) (0 : Int))) :: (.pointer (some ⟨gs21, 0, none⟩)) :: (.pointer (some ⟨g86, 0, none⟩)) :: (.bool true) :: (.bool true) :: (.int .i64 ((waits - 1) + 1)) :: (.int .i64 room) :: (.bool true) :: (.bool false) :: (.bool false) :: (.bool true) :: (.bool false) :: (.bool false) :: undef :: undef :: undef :: (.bool false) :: (.bool false) :: (.int .i64 ((waits - 1) + 1)) :: (.int .i64 room) :: (.bool true) :: (.int .i64 ((waits - 1) + 1)) :: (.int .i64 (((waits - 1) + 1) + 1)) :: undef :: []) k_ undef), k + 1, ((waits - 1) + 1) + 1, made, ((wl ++ [((g1, A1, c1, ws79) : Ws)]) ++ [((g86, (some ⟨a87, 0, none⟩), c88, ws95) : Ws)]), congrArg Fr (by kernel_rfl), rfl, by omega, by omega, by omega, by omega, (by (try simp only [List.length_append, List.length_cons, List.length_nil]); omega), (by (try simp only [List.length_append, List.length_cons, List.length_nil]); omega), (all_snocW (all_snocW (fun y hy => hw y (by simp [hy])) hR80) hR96), HS⟩
                  · skip
                    have hrm := hv8; (try simp only [List.length_append, List.length_cons, List.length_nil] at hrm)
                    refine (sgive_full gs21 gp22 c23 ((room).toNat) size made g86 c88 (some ⟨a87, 0, none⟩) ws92 (addL size ([]) (0 : Int)) (wl ++ [((g1, A1, c1, ws79) : Ws)]) _ _ (St.focus (F := [blk g86 [.slice (some ⟨a87, 0, none⟩) ws92.length c88, .int .i64 size] 77, row (some ⟨a87, 0, none⟩) ws92.length c88 (ci .u64 ws92) 74 1, blk gs21 [.pointer (some ⟨gp22, 0, none⟩), .int .i64 size, .int .i64 made] 67, blk gp22 [.chan (some c23)] 95, chn c23 ((room).toNat) ((wptr (wl ++ [((g1, A1, c1, ws79) : Ws)])).map fun n : Nat => Value.pointer (some ⟨n, 0, none⟩)), many (rsE 77 74 size (wRw (wl ++ [((g1, A1, c1, ws79) : Ws)])))]) HS) hno hTc hR93 (by omega) (by (try simp only [List.length_append, List.length_cons, List.length_nil]); omega)).mono ?_
                    rintro e W98 ⟨ws95, rfl, H_, hR96⟩
                    refine ⟨_, rfl, ?_⟩
                    replace HS : St W (owns []) W98 [blk g86 [.slice (some ⟨a87, 0, none⟩) ws95.length c88, .int .i64 size] 77, row (some ⟨a87, 0, none⟩) ws95.length c88 (ci .u64 ws95) 74 1, blk gs21 [.pointer (some ⟨gp22, 0, none⟩), .int .i64 size, .int .i64 made] 67, blk gp22 [.chan (some c23)] 95, chn c23 ((room).toNat) ((wptr (wl ++ [((g1, A1, c1, ws79) : Ws)])).map fun n : Nat => Value.pointer (some ⟨n, 0, none⟩)), many (rsE 77 74 size (wRw (wl ++ [((g1, A1, c1, ws79) : Ws)]))), blk gs82 [.pointer (some ⟨gp83, 0, none⟩), .int .i64 size, .int .i64 (0 + 1)] 67, blk gp83 [.chan (some c84)] 95, chn c84 ((room).toNat) ((wptr ([] : List Ws)).map fun n : Nat => Value.pointer (some ⟨n, 0, none⟩)), many (rsE 77 74 size (wRw ([] : List Ws)))] := HS.join (F := [blk g86 [.slice (some ⟨a87, 0, none⟩) ws92.length c88, .int .i64 size] 77, row (some ⟨a87, 0, none⟩) ws92.length c88 (ci .u64 ws92) 74 1, blk gs21 [.pointer (some ⟨gp22, 0, none⟩), .int .i64 size, .int .i64 made] 67, blk gp22 [.chan (some c23)] 95, chn c23 ((room).toNat) ((wptr (wl ++ [((g1, A1, c1, ws79) : Ws)])).map fun n : Nat => Value.pointer (some ⟨n, 0, none⟩)), many (rsE 77 74 size (wRw (wl ++ [((g1, A1, c1, ws79) : Ws)])))]) (G := [blk g86 [.slice (some ⟨a87, 0, none⟩) ws95.length c88, .int .i64 size] 77, row (some ⟨a87, 0, none⟩) ws95.length c88 (ci .u64 ws95) 74 1, blk gs21 [.pointer (some ⟨gp22, 0, none⟩), .int .i64 size, .int .i64 made] 67, blk gp22 [.chan (some c23)] 95, chn c23 ((room).toNat) ((wptr (wl ++ [((g1, A1, c1, ws79) : Ws)])).map fun n : Nat => Value.pointer (some ⟨n, 0, none⟩)), many (rsE 77 74 size (wRw (wl ++ [((g1, A1, c1, ws79) : Ws)])))]) H_
                    clear H_
                    refine ql (.bool false) (by kernel_rfl) (by kernel_rfl) ?_
                    refine wpList_nil ?_
                    refine x_then ?_
                    refine wp_seq ?_
                    refine wp_seq ?_
                    refine wp_region_lit ?_
                    refine ql (.bool false) (by kernel_rfl) (by kernel_rfl) ?_
                    refine ql (.int .i64 ((waits - 1) + 1)) (by kernel_rfl) (by kernel_rfl) ?_
                    refine ql (.int .i64 room) (by kernel_rfl) (by kernel_rfl) ?_
                    refine ql (.bool false) (by kernel_rfl) (R_nbool (p := ((waits - 1) + 1) < room) (by kernel_rfl) (by omega)) ?_
                    refine ql (.bool false) (by kernel_rfl) (by kernel_rfl) ?_
                    refine ql (.bool false) (by kernel_rfl) (by kernel_rfl) ?_
                    refine ql (.bool false) (by kernel_rfl) (by kernel_rfl) ?_
                    refine ql (.bool true) (by kernel_rfl) (by kernel_rfl) ?_
                    refine ql (.bool true) (by kernel_rfl) (by kernel_rfl) ?_
                    refine ql (.pointer (some ⟨g86, 0, none⟩)) (by kernel_rfl) (by kernel_rfl) ?_
                    refine qc (f := 22) (args := #[.pointer (some ⟨g86, 0, none⟩)]) (by kernel_rfl) (R_call #[.pointer (some ⟨g86, 0, none⟩)] Tryd.func22 (by kernel_rfl) (by kernel_rfl) (by kernel_rfl)) ?_
                    refine (dcount g86 c88 (some ⟨a87, 0, none⟩) ws95 size [] _ (HS.cell (i := 0) (j := 0) rfl rfl) (HS.cell (i := 0) (j := 1) rfl rfl) (Rd.row HS (i := 1) rfl) hR96 (by omega)).mono ?_
                    rintro e W99 ⟨rfl, H_⟩
                    rw [show ((([] : List Int).length : Nat) : Int) = 0 from rfl]
                    refine ⟨_, rfl, ?_⟩
                    replace HS : St W (owns []) W99 [blk g86 [.slice (some ⟨a87, 0, none⟩) ws95.length c88, .int .i64 size] 77, row (some ⟨a87, 0, none⟩) ws95.length c88 (ci .u64 ws95) 74 1, blk gs21 [.pointer (some ⟨gp22, 0, none⟩), .int .i64 size, .int .i64 made] 67, blk gp22 [.chan (some c23)] 95, chn c23 ((room).toNat) ((wptr (wl ++ [((g1, A1, c1, ws79) : Ws)])).map fun n : Nat => Value.pointer (some ⟨n, 0, none⟩)), many (rsE 77 74 size (wRw (wl ++ [((g1, A1, c1, ws79) : Ws)]))), blk gs82 [.pointer (some ⟨gp83, 0, none⟩), .int .i64 size, .int .i64 (0 + 1)] 67, blk gp83 [.chan (some c84)] 95, chn c84 ((room).toNat) ((wptr ([] : List Ws)).map fun n : Nat => Value.pointer (some ⟨n, 0, none⟩)), many (rsE 77 74 size (wRw ([] : List Ws)))] := HS.join (F := []) (G := []) H_
                    clear H_
                    refine ql (.bool false) (by kernel_rfl) (R_beq (b := ((0 : Int) != 0)) (by kernel_rfl) (by decide)) ?_
                    refine ql (.bool false) (by kernel_rfl) (by kernel_rfl) ?_
                    refine ql (.bool false) (by kernel_rfl) (by kernel_rfl) ?_
                    refine wpList_nil ?_
                    refine x_then ?_
                    refine wp_cond_false (by kernel_rfl) ?_
                    refine wp_skip ?_
                    refine x_then ?_
                    refine wp_seq ?_
                    refine wp_region_lit ?_
                    refine ql (.int .i64 ((waits - 1) + 1)) (by kernel_rfl) (by kernel_rfl) ?_
                    refine ql (.int .i64 room) (by kernel_rfl) (by kernel_rfl) ?_
                    refine ql (.bool false) (by kernel_rfl) (R_nbool (p := ((waits - 1) + 1) < room) (by kernel_rfl) (by omega)) ?_
                    refine wpList_nil ?_
                    refine x_then ?_
                    refine wp_cond_false (by kernel_rfl) ?_
                    refine wp_skip ?_
                    refine x_inb ?_
                    refine x_then ?_
                    refine wp_region_lit ?_
                    refine ql (.int .i64 k) (by kernel_rfl) (by kernel_rfl) ?_
                    refine ql (.int .i64 (k + 1)) (by kernel_rfl) (R_int (by kernel_rfl) (w64 (by omega))) ?_
                    refine ql (.int .i64 (k + 1)) (by kernel_rfl) (by kernel_rfl) ?_
                    refine wpList_nil ?_
                    replace HS : St W (owns []) W99 [blk gs21 [.pointer (some ⟨gp22, 0, none⟩), .int .i64 size, .int .i64 made] 67, blk gp22 [.chan (some c23)] 95, chn c23 ((room).toNat) ((wptr (wl ++ [((g1, A1, c1, ws79) : Ws)])).map fun n : Nat => Value.pointer (some ⟨n, 0, none⟩)), many (rsE 77 74 size (wRw (wl ++ [((g1, A1, c1, ws79) : Ws)])))] := St.tail (F := [blk g86 [.slice (some ⟨a87, 0, none⟩) ws95.length c88, .int .i64 size] 77, row (some ⟨a87, 0, none⟩) ws95.length c88 (ci .u64 ws95) 74 1, blk gs82 [.pointer (some ⟨gp83, 0, none⟩), .int .i64 size, .int .i64 (0 + 1)] 67, blk gp83 [.chan (some c84)] 95, chn c84 ((room).toNat) ((wptr ([] : List Ws)).map fun n : Nat => Value.pointer (some ⟨n, 0, none⟩)), many (rsE 77 74 size (wRw ([] : List Ws)))]) (HS.perm (perm_ [0, 1, 6, 7, 8, 9, 2, 3, 4, 5] (by kernel_rfl) rfl))
                    refine x_then ?_
                    exact ⟨l.length - (k + 1).toNat, by omega, (fun k_ : Nat => List.getD ((.int .i64 size) :: (.int .i64 room) :: (.slice (some ad71) l.length cl) :: undef :: undef :: undef :: ((J25 6)) :: undef :: undef :: undef :: undef :: (.pointer (some ⟨gs21, 0, none⟩)) :: (.int .i64 0) :: (.int .i64 ((waits - 1) + 1)) :: (.int .i64 made) :: (.int .i64 (k + 1)) :: (.pointer (some ⟨g1, 0, none⟩)) :: (.pointer (some ⟨gs82, 0, none⟩)) :: (.int .i64 0) :: (.pointer (some ⟨g86, 0, none⟩)) :: (.bool false) :: (.int .i64 size) :: (.bool false) :: (.bool false) :: (.int .i64 size) :: (.bool false) :: (.bool false) :: (.bool false) :: (.int .i64 room) :: (.bool false) :: (.bool false) :: (.bool false) :: (.int .i64 room) :: (.bool false) :: (.bool false) :: (.bool false) :: (.slice (some ad71) l.length cl) :: (.int .i64 (l.length : Int)) :: (.bool false) :: (.bool false) :: undef :: undef :: undef :: undef :: undef :: undef :: undef :: undef :: undef :: undef :: undef :: undef :: undef :: undef :: undef :: undef :: undef :: undef :: undef :: undef :: undef :: undef :: undef :: undef :: undef :: (.tuple #[.pointer (some ⟨gs21, 0, none⟩), .int .i64 0]) :: (.int .i64 size) :: (.int .i64 room) :: (.tuple #[.pointer (some ⟨gs21, 0, none⟩), .int .i64 0]) :: (.pointer (some ⟨gs21, 0, none⟩)) :: (.int .i64 0) :: (.pointer (some ⟨gs21, 0, none⟩)) :: (.bool false) :: (.bool false) :: (.int .i64 0) :: (.bool false) :: (.bool false) :: (.int .i64 k) :: (.slice (some ad71) l.length cl) :: (.int .i64 (l.length : Int)) :: (.bool true) :: (.int .i64 k) :: (.int .i64 (k + 1)) :: (.pointer (some ⟨gs21, 0, none⟩)) :: (.pointer (some ⟨g1, 0, none⟩)) :: (.int .i64 waits) :: (.bool true) :: (.int .i64 waits) :: (.int .i64 (waits - 1)) :: ((J25 89)) :: ((J25 90)) :: (.pointer (some ⟨g1, 0, none⟩)) :: (.bool false) :: (.bool false) :: (.pointer (some ⟨g1, 0, none⟩)) :: (.int .i64 size) :: (.int .i64 size) :: (.bool false) :: (.bool false) :: (.bool false) :: (.pointer (some ⟨g1, 0, none⟩)) :: (.int .i64 0) :: (.bool false) :: (.bool false) :: (.bool false) :: (.pointer (some ⟨gs21, 0, none⟩)) :: (.int .i64 made) :: (.int .i64 made) :: (.bool false) :: (.bool false) :: (.pointer (some ⟨g1, 0, none⟩)) :: (.slice (some ad71) l.length cl) :: (.int .i64 k) :: (.pointer (some (ad71.add k.toNat))) :: (.int .i64 (rdI l k)) :: (.bool (addB size ([]) (rdI l k))) :: (.pointer (some ⟨g1, 0, none⟩)) :: (.bool (addB size (addL size ([]) (rdI l k)) (0 : Int))) :: (.slice (some ad71) l.length cl) :: (.int .i64 k) :: (.pointer (some (ad71.add k.toNat))) :: (.int .i64 (rdI l k)) :: (.int .i64 (andI (rdI l k) 1)) :: (.bool true) :: (.pointer (some ⟨gs21, 0, none⟩)) :: (.pointer (some ⟨g1, 0, none⟩)) :: (.bool true) :: (.int .i64 (waits - 1)) :: (.int .i64 room) :: (.bool true) :: (.bool false) :: (.int .i64 (waits - 1)) :: (.int .i64 ((waits - 1) + 1)) :: (.tuple #[.pointer (some ⟨gs82, 0, none⟩), .int .i64 0]) :: (.int .i64 size) :: (.int .i64 room) :: (.tuple #[.pointer (some ⟨gs82, 0, none⟩), .int .i64 0]) :: (.pointer (some ⟨gs82, 0, none⟩)) :: (.int .i64 0) :: (.pointer (some ⟨gs82, 0, none⟩)) :: (.pointer (some ⟨g86, 0, none⟩)) :: (.pointer (some ⟨g86, 0, none⟩)) :: (.bool (addB size ([]) (0 : Int))) :: (.pointer (some ⟨gs21, 0, none⟩)) :: (.pointer (some ⟨g86, 0, none⟩)) :: (.bool false) :: (.bool false) :: (.int .i64 ((waits - 1) + 1)) :: (.int .i64 room) :: (.bool false) :: (.bool false) :: (.bool false) :: (.bool false) :: (.bool true) :: (.bool true) :: (.pointer (some ⟨g86, 0, none⟩)) :: (.int .i64 0) :: (.bool false) :: (.bool false) :: (.bool false) :: (.int .i64 ((waits - 1) + 1)) :: (.int .i64 room) :: (.bool false) :: ((J25 163)) :: ((J25 164)) :: undef :: []) k_ undef), k + 1, (waits - 1) + 1, made, (wl ++ [((g1, A1, c1, ws79) : Ws)]), congrArg Fr (by kernel_rfl), rfl, by omega, by omega, by omega, by omega, (by (try simp only [List.length_append, List.length_cons, List.length_nil]); omega), (by (try simp only [List.length_append, List.length_cons, List.length_nil]); omega), (all_snocW (fun y hy => hw y (by simp [hy])) hR80), HS⟩
                · skip
                  refine ql (.bool false) (by kernel_rfl) (R_beq (b := (andI (rdI l k) 1 == (0 : Int))) (by kernel_rfl) (beq_f (hc78))) ?_
                  refine wpList_nil ?_
                  refine x_then ?_
                  refine wp_cond_false (by kernel_rfl) ?_
                  refine wp_skip ?_
                  refine x_inb ?_
                  refine x_then ?_
                  refine wp_region_lit ?_
                  refine ql (.int .i64 k) (by kernel_rfl) (by kernel_rfl) ?_
                  refine ql (.int .i64 (k + 1)) (by kernel_rfl) (R_int (by kernel_rfl) (w64 (by omega))) ?_
                  refine ql (.int .i64 (k + 1)) (by kernel_rfl) (by kernel_rfl) ?_
                  refine wpList_nil ?_
                  replace HS := HS.drop1
                  replace HS := HS.drop1
                  refine x_then ?_
                  exact ⟨l.length - (k + 1).toNat, by omega, (fun k_ : Nat => List.getD ((.int .i64 size) :: (.int .i64 room) :: (.slice (some ad71) l.length cl) :: undef :: undef :: undef :: ((J25 6)) :: undef :: undef :: undef :: undef :: (.pointer (some ⟨gs21, 0, none⟩)) :: (.int .i64 0) :: (.int .i64 (waits - 1)) :: (.int .i64 made) :: (.int .i64 (k + 1)) :: (.pointer (some ⟨g1, 0, none⟩)) :: ((J25 17)) :: ((J25 18)) :: ((J25 19)) :: ((J25 20)) :: (.int .i64 size) :: (.bool false) :: (.bool false) :: (.int .i64 size) :: (.bool false) :: (.bool false) :: (.bool false) :: (.int .i64 room) :: (.bool false) :: (.bool false) :: (.bool false) :: (.int .i64 room) :: (.bool false) :: (.bool false) :: (.bool false) :: (.slice (some ad71) l.length cl) :: (.int .i64 (l.length : Int)) :: (.bool false) :: (.bool false) :: undef :: undef :: undef :: undef :: undef :: undef :: undef :: undef :: undef :: undef :: undef :: undef :: undef :: undef :: undef :: undef :: undef :: undef :: undef :: undef :: undef :: undef :: undef :: undef :: undef :: (.tuple #[.pointer (some ⟨gs21, 0, none⟩), .int .i64 0]) :: (.int .i64 size) :: (.int .i64 room) :: (.tuple #[.pointer (some ⟨gs21, 0, none⟩), .int .i64 0]) :: (.pointer (some ⟨gs21, 0, none⟩)) :: (.int .i64 0) :: (.pointer (some ⟨gs21, 0, none⟩)) :: (.bool false) :: (.bool false) :: (.int .i64 0) :: (.bool false) :: (.bool false) :: (.int .i64 k) :: (.slice (some ad71) l.length cl) :: (.int .i64 (l.length : Int)) :: (.bool true) :: (.int .i64 k) :: (.int .i64 (k + 1)) :: (.pointer (some ⟨gs21, 0, none⟩)) :: (.pointer (some ⟨g1, 0, none⟩)) :: (.int .i64 waits) :: (.bool true) :: (.int .i64 waits) :: (.int .i64 (waits - 1)) :: ((J25 89)) :: ((J25 90)) :: (.pointer (some ⟨g1, 0, none⟩)) :: (.bool false) :: (.bool false) :: (.pointer (some ⟨g1, 0, none⟩)) :: (.int .i64 size) :: (.int .i64 size) :: (.bool false) :: (.bool false) :: (.bool false) :: (.pointer (some ⟨g1, 0, none⟩)) :: (.int .i64 0) :: (.bool false) :: (.bool false) :: (.bool false) :: (.pointer (some ⟨gs21, 0, none⟩)) :: (.int .i64 made) :: (.int .i64 made) :: (.bool false) :: (.bool false) :: (.pointer (some ⟨g1, 0, none⟩)) :: (.slice (some ad71) l.length cl) :: (.int .i64 k) :: (.pointer (some (ad71.add k.toNat))) :: (.int .i64 (rdI l k)) :: (.bool (addB size ([]) (rdI l k))) :: (.pointer (some ⟨g1, 0, none⟩)) :: (.bool (addB size (addL size ([]) (rdI l k)) (0 : Int))) :: (.slice (some ad71) l.length cl) :: (.int .i64 k) :: (.pointer (some (ad71.add k.toNat))) :: (.int .i64 (rdI l k)) :: (.int .i64 (andI (rdI l k) 1)) :: (.bool false) :: ((J25 124)) :: ((J25 125)) :: ((J25 126)) :: ((J25 127)) :: ((J25 128)) :: ((J25 129)) :: ((J25 130)) :: ((J25 131)) :: ((J25 132)) :: ((J25 133)) :: ((J25 134)) :: ((J25 135)) :: ((J25 136)) :: ((J25 137)) :: ((J25 138)) :: ((J25 139)) :: ((J25 140)) :: ((J25 141)) :: ((J25 142)) :: ((J25 143)) :: ((J25 144)) :: ((J25 145)) :: ((J25 146)) :: ((J25 147)) :: ((J25 148)) :: ((J25 149)) :: ((J25 150)) :: ((J25 151)) :: ((J25 152)) :: ((J25 153)) :: ((J25 154)) :: ((J25 155)) :: ((J25 156)) :: ((J25 157)) :: ((J25 158)) :: ((J25 159)) :: ((J25 160)) :: ((J25 161)) :: ((J25 162)) :: ((J25 163)) :: ((J25 164)) :: undef :: []) k_ undef), k + 1, waits - 1, made, wl, congrArg Fr (by kernel_rfl), rfl, by omega, by omega, by omega, by omega, (by (try simp only [List.length_append, List.length_cons, List.length_nil]); omega), (by (try simp only [List.length_append, List.length_cons, List.length_nil]); omega), (fun y hy => hw y (by simp [hy])), HS⟩
            · skip
              refine ql (.bool false) (by kernel_rfl) (R_nbool (p := k < (l.length : Int)) (by kernel_rfl) (hc28)) ?_
              refine wpList_nil ?_
              refine x_then ?_
              refine wp_cond_false (by kernel_rfl) ?_
              refine wp_exit ?_
              refine x_thenE ?_
              refine x_thenE ?_
              refine x_hit ?_
              refine x_then ?_
              refine wp_seq ?_
              refine wp_region_lit ?_
              refine qc (f := 20) (args := #[]) (by kernel_rfl) (R_call #[] Tryd.func20 (by kernel_rfl) (by kernel_rfl) (by kernel_rfl)) ?_
              refine (awake39 _).mono ?_
              rintro e W100 ⟨rfl, H_⟩
              refine ⟨_, rfl, ?_⟩
              replace HS : St W (owns []) W100 [blk gs21 [.pointer (some ⟨gp22, 0, none⟩), .int .i64 size, .int .i64 made] 67, blk gp22 [.chan (some c23)] 95, chn c23 ((room).toNat) ((wptr wl).map fun n : Nat => Value.pointer (some ⟨n, 0, none⟩)), many (rsE 77 74 size (wRw wl))] := HS.join (F := []) (G := []) H_
              clear H_
              refine ql (.bool true) (by kernel_rfl) (by kernel_rfl) ?_
              refine wpList_nil ?_
              refine x_then ?_
              refine wp_ret ?_
              refine ret_ (.bool true) (by kernel_rfl) ?_
              replace HS := HS.drop1
              replace HS := HS.drop1
              replace HS := HS.drop1
              replace HS := HS.drop1
              exact ⟨rfl, HS⟩

end Go.Proofs.YtgoapobflajliaaDoor
