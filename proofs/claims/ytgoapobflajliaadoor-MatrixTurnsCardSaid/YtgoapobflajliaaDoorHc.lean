/- For every shape and list of cells, rows and columns of a matrix of chapter 6 tell the same: MatrixTurns returns true, and its arguments read as they did. This text: the walks through the functions that the statement reaches. No condition but those in the statement. -/
import Derived.WalkKit
import Derived.StillTailTactics
import Derived.Deep.LoopGhost
import Derived.KernelRfl
import Derived.Deep.OwnRows
import Derived.Laws.OwnMore
import Derived.Laws.MakeOwn
import Derived.Maps.AppendAt
import Derived.OrdersHeld
import Derived.Test.YtgoapobflajliaaDoorProg
import Derived.Test.YtgoapobflajliaaDoorHa
import Derived.Test.YtgoapobflajliaaDoorHb
namespace Go.Proofs.YtgoapobflajliaaDoor
open Go Go.RowKit Go.Shelf Go.Proofs.YtgoapobflajliaaDoor.Hp
attribute [local irreducible] wpStill wpList Code.wp TA
set_option linter.unusedVariables false
set_option linter.unusedSimpArgs false

set_option maxRecDepth 100000 in
set_option maxHeartbeats 1000000 in
theorem lMatrixTurns (rows cols : Int) (Al : Option Addr) (cl : Nat) (l : List (Int × Int)) (W : World) (hra : Rd W Al (cf actD l)) (hT : TabAt64 W) : Calls Tryd.prog 7 #[.int .i64 rows, .int .i64 cols, .slice Al l.length cl] W fun e W' => e = .returned (.bool true) ∧ St W (owns []) W' [] := by
  have HS : St W (owns []) W [] := St.start W _
  refine calls_enter ((.int .i64 rows) :: (.int .i64 cols) :: (.slice Al l.length cl) :: undef :: undef :: undef :: undef :: undef :: undef :: undef :: undef :: undef :: undef :: undef :: undef :: undef :: undef :: undef :: undef :: undef :: undef :: undef :: undef :: undef :: undef :: undef :: undef :: undef :: undef :: undef :: undef :: undef :: undef :: undef :: undef :: undef :: undef :: undef :: undef :: undef :: undef :: undef :: undef :: undef :: undef :: undef :: undef :: undef :: undef :: undef :: undef :: undef :: undef :: undef :: undef :: undef :: undef :: undef :: undef :: undef :: undef :: undef :: undef :: undef :: undef :: undef :: undef :: undef :: undef :: undef :: undef :: undef :: undef :: undef :: undef :: undef :: undef :: undef :: undef :: undef :: undef :: undef :: undef :: undef :: undef :: undef :: undef :: undef :: undef :: undef :: undef :: undef :: undef :: undef :: undef :: undef :: undef :: undef :: undef :: undef :: undef :: undef :: undef :: undef :: undef :: undef :: undef :: undef :: undef :: undef :: undef :: undef :: undef :: undef :: undef :: undef :: undef :: undef :: undef :: undef :: undef :: undef :: undef :: undef :: undef :: undef :: undef :: undef :: undef :: undef :: undef :: undef :: undef :: undef :: undef :: undef :: undef :: undef :: undef :: undef :: undef :: undef :: undef :: undef :: undef :: undef :: undef :: undef :: undef :: undef :: undef :: undef :: undef :: undef :: undef :: undef :: undef :: undef :: undef :: undef :: undef :: undef :: undef :: undef :: undef :: undef :: undef :: undef :: undef :: undef :: undef :: undef :: undef :: undef :: undef :: undef :: undef :: undef :: undef :: undef :: undef :: undef :: undef :: undef :: undef :: []) Tryd.func7 rfl (by kernel_rfl) ?_
  refine wp_seq ?_
  refine wp_region_lit ?_
  refine ql (.bool false) (by kernel_rfl) (by kernel_rfl) ?_
  refine wpList_nil ?_
  refine x_then ?_
  refine wp_seq ?_
  refine wp_seq ?_
  refine wp_region_lit ?_
  refine ql (.int .i64 rows) (by kernel_rfl) (by kernel_rfl) ?_
  by_cases hc1 : rows < (0 : Int)
  · skip
    refine ql (.bool true) (by kernel_rfl) (R_bool (p := rows < (0 : Int)) (by kernel_rfl) (hc1)) ?_
    refine ql (.bool true) (by kernel_rfl) (by kernel_rfl) ?_
    refine qln (by kernel_rfl) ?_
    refine qln (by kernel_rfl) ?_
    refine ql (.bool true) (by kernel_rfl) (by kernel_rfl) ?_
    refine ql (.bool true) (by kernel_rfl) (by kernel_rfl) ?_
    refine qln (by kernel_rfl) ?_
    refine qln (by kernel_rfl) ?_
    refine ql (.bool true) (by kernel_rfl) (by kernel_rfl) ?_
    refine ql (.bool true) (by kernel_rfl) (by kernel_rfl) ?_
    refine qln (by kernel_rfl) ?_
    refine qln (by kernel_rfl) ?_
    refine ql (.bool true) (by kernel_rfl) (by kernel_rfl) ?_
    refine ql (.bool true) (by kernel_rfl) (by kernel_rfl) ?_
    refine qln (by kernel_rfl) ?_
    refine qln (by kernel_rfl) ?_
    refine qln (by kernel_rfl) ?_
    refine ql (.bool true) (by kernel_rfl) (by kernel_rfl) ?_
    refine wpList_nil ?_
    refine x_then ?_
    refine wp_cond_true (by kernel_rfl) ?_
    refine wp_seq ?_
    refine wp_region_lit ?_
    refine qc (f := 23) (args := #[]) (by kernel_rfl) (R_call #[] Tryd.func23 (by kernel_rfl) (by kernel_rfl) (by kernel_rfl)) ?_
    refine (mawake _).mono ?_
    rintro e W2 ⟨rfl, H_⟩
    refine ⟨_, rfl, ?_⟩
    replace HS : St W (owns []) W2 [] := HS.join (F := []) (G := []) H_
    clear H_
    refine ql (.bool true) (by kernel_rfl) (by kernel_rfl) ?_
    refine wpList_nil ?_
    refine x_then ?_
    refine wp_ret ?_
    refine x_thenR ?_
    refine ret_ (.bool true) (by kernel_rfl) ?_
    exact ⟨rfl, HS⟩
  · skip
    refine ql (.bool false) (by kernel_rfl) (R_nbool (p := rows < (0 : Int)) (by kernel_rfl) (hc1)) ?_
    refine ql (.bool false) (by kernel_rfl) (by kernel_rfl) ?_
    refine ql (.int .i64 cols) (by kernel_rfl) (by kernel_rfl) ?_
    by_cases hc3 : cols < (0 : Int)
    · skip
      refine ql (.bool true) (by kernel_rfl) (R_bool (p := cols < (0 : Int)) (by kernel_rfl) (hc3)) ?_
      refine ql (.bool true) (by kernel_rfl) (by kernel_rfl) ?_
      refine ql (.bool true) (by kernel_rfl) (by kernel_rfl) ?_
      refine qln (by kernel_rfl) ?_
      refine qln (by kernel_rfl) ?_
      refine ql (.bool true) (by kernel_rfl) (by kernel_rfl) ?_
      refine ql (.bool true) (by kernel_rfl) (by kernel_rfl) ?_
      refine qln (by kernel_rfl) ?_
      refine qln (by kernel_rfl) ?_
      refine ql (.bool true) (by kernel_rfl) (by kernel_rfl) ?_
      refine ql (.bool true) (by kernel_rfl) (by kernel_rfl) ?_
      refine qln (by kernel_rfl) ?_
      refine qln (by kernel_rfl) ?_
      refine qln (by kernel_rfl) ?_
      refine ql (.bool true) (by kernel_rfl) (by kernel_rfl) ?_
      refine wpList_nil ?_
      refine x_then ?_
      refine wp_cond_true (by kernel_rfl) ?_
      refine wp_seq ?_
      refine wp_region_lit ?_
      refine qc (f := 23) (args := #[]) (by kernel_rfl) (R_call #[] Tryd.func23 (by kernel_rfl) (by kernel_rfl) (by kernel_rfl)) ?_
      refine (mawake _).mono ?_
      rintro e W4 ⟨rfl, H_⟩
      refine ⟨_, rfl, ?_⟩
      replace HS : St W (owns []) W4 [] := HS.join (F := []) (G := []) H_
      clear H_
      refine ql (.bool true) (by kernel_rfl) (by kernel_rfl) ?_
      refine wpList_nil ?_
      refine x_then ?_
      refine wp_ret ?_
      refine x_thenR ?_
      refine ret_ (.bool true) (by kernel_rfl) ?_
      exact ⟨rfl, HS⟩
    · skip
      refine ql (.bool false) (by kernel_rfl) (R_nbool (p := cols < (0 : Int)) (by kernel_rfl) (hc3)) ?_
      refine ql (.bool false) (by kernel_rfl) (by kernel_rfl) ?_
      refine ql (.bool false) (by kernel_rfl) (by kernel_rfl) ?_
      refine ql (.int .i64 rows) (by kernel_rfl) (by kernel_rfl) ?_
      by_cases hc5 : rows > (10 : Int)
      · skip
        refine ql (.bool true) (by kernel_rfl) (R_bool (p := rows > (10 : Int)) (by kernel_rfl) (hc5)) ?_
        refine ql (.bool true) (by kernel_rfl) (by kernel_rfl) ?_
        refine ql (.bool true) (by kernel_rfl) (by kernel_rfl) ?_
        refine qln (by kernel_rfl) ?_
        refine qln (by kernel_rfl) ?_
        refine ql (.bool true) (by kernel_rfl) (by kernel_rfl) ?_
        refine ql (.bool true) (by kernel_rfl) (by kernel_rfl) ?_
        refine qln (by kernel_rfl) ?_
        refine qln (by kernel_rfl) ?_
        refine qln (by kernel_rfl) ?_
        refine ql (.bool true) (by kernel_rfl) (by kernel_rfl) ?_
        refine wpList_nil ?_
        refine x_then ?_
        refine wp_cond_true (by kernel_rfl) ?_
        refine wp_seq ?_
        refine wp_region_lit ?_
        refine qc (f := 23) (args := #[]) (by kernel_rfl) (R_call #[] Tryd.func23 (by kernel_rfl) (by kernel_rfl) (by kernel_rfl)) ?_
        refine (mawake _).mono ?_
        rintro e W6 ⟨rfl, H_⟩
        refine ⟨_, rfl, ?_⟩
        replace HS : St W (owns []) W6 [] := HS.join (F := []) (G := []) H_
        clear H_
        refine ql (.bool true) (by kernel_rfl) (by kernel_rfl) ?_
        refine wpList_nil ?_
        refine x_then ?_
        refine wp_ret ?_
        refine x_thenR ?_
        refine ret_ (.bool true) (by kernel_rfl) ?_
        exact ⟨rfl, HS⟩
      · skip
        refine ql (.bool false) (by kernel_rfl) (R_nbool (p := rows > (10 : Int)) (by kernel_rfl) (hc5)) ?_
        refine ql (.bool false) (by kernel_rfl) (by kernel_rfl) ?_
        refine ql (.bool false) (by kernel_rfl) (by kernel_rfl) ?_
        refine ql (.int .i64 cols) (by kernel_rfl) (by kernel_rfl) ?_
        by_cases hc7 : cols > (10 : Int)
        · skip
          refine ql (.bool true) (by kernel_rfl) (R_bool (p := cols > (10 : Int)) (by kernel_rfl) (hc7)) ?_
          refine ql (.bool true) (by kernel_rfl) (by kernel_rfl) ?_
          refine ql (.bool true) (by kernel_rfl) (by kernel_rfl) ?_
          refine qln (by kernel_rfl) ?_
          refine qln (by kernel_rfl) ?_
          refine qln (by kernel_rfl) ?_
          refine ql (.bool true) (by kernel_rfl) (by kernel_rfl) ?_
          refine wpList_nil ?_
          refine x_then ?_
          refine wp_cond_true (by kernel_rfl) ?_
          refine wp_seq ?_
          refine wp_region_lit ?_
          refine qc (f := 23) (args := #[]) (by kernel_rfl) (R_call #[] Tryd.func23 (by kernel_rfl) (by kernel_rfl) (by kernel_rfl)) ?_
          refine (mawake _).mono ?_
          rintro e W8 ⟨rfl, H_⟩
          refine ⟨_, rfl, ?_⟩
          replace HS : St W (owns []) W8 [] := HS.join (F := []) (G := []) H_
          clear H_
          refine ql (.bool true) (by kernel_rfl) (by kernel_rfl) ?_
          refine wpList_nil ?_
          refine x_then ?_
          refine wp_ret ?_
          refine x_thenR ?_
          refine ret_ (.bool true) (by kernel_rfl) ?_
          exact ⟨rfl, HS⟩
        · skip
          refine ql (.bool false) (by kernel_rfl) (R_nbool (p := cols > (10 : Int)) (by kernel_rfl) (hc7)) ?_
          refine ql (.bool false) (by kernel_rfl) (by kernel_rfl) ?_
          refine ql (.bool false) (by kernel_rfl) (by kernel_rfl) ?_
          refine ql (.slice Al l.length cl) (by kernel_rfl) (by kernel_rfl) ?_
          refine ql (.int .i64 (l.length : Int)) (by kernel_rfl) (by kernel_rfl) ?_
          by_cases hc9 : (l.length : Int) > (30 : Int)
          · skip
            refine ql (.bool true) (by kernel_rfl) (R_bool (p := (l.length : Int) > (30 : Int)) (by kernel_rfl) (hc9)) ?_
            refine ql (.bool true) (by kernel_rfl) (by kernel_rfl) ?_
            refine wpList_nil ?_
            refine x_then ?_
            refine wp_cond_true (by kernel_rfl) ?_
            refine wp_seq ?_
            refine wp_region_lit ?_
            refine qc (f := 23) (args := #[]) (by kernel_rfl) (R_call #[] Tryd.func23 (by kernel_rfl) (by kernel_rfl) (by kernel_rfl)) ?_
            refine (mawake _).mono ?_
            rintro e W10 ⟨rfl, H_⟩
            refine ⟨_, rfl, ?_⟩
            replace HS : St W (owns []) W10 [] := HS.join (F := []) (G := []) H_
            clear H_
            refine ql (.bool true) (by kernel_rfl) (by kernel_rfl) ?_
            refine wpList_nil ?_
            refine x_then ?_
            refine wp_ret ?_
            refine x_thenR ?_
            refine ret_ (.bool true) (by kernel_rfl) ?_
            exact ⟨rfl, HS⟩
          · skip
            refine ql (.bool false) (by kernel_rfl) (R_nbool (p := (l.length : Int) > (30 : Int)) (by kernel_rfl) (hc9)) ?_
            refine ql (.bool false) (by kernel_rfl) (by kernel_rfl) ?_
            refine wpList_nil ?_
            refine x_then ?_
            refine wp_cond_false (by kernel_rfl) ?_
            refine wp_skip ?_
            refine x_then ?_
            refine wp_seq ?_
            refine wp_region_lit ?_
            refine ql (.int .i64 rows) (by kernel_rfl) (by kernel_rfl) ?_
            refine ql (.int .i64 cols) (by kernel_rfl) (by kernel_rfl) ?_
            refine qc (f := 24) (args := #[.int .i64 rows, .int .i64 cols]) (by kernel_rfl) (R_call #[.int .i64 rows, .int .i64 cols] Tryd.func24 (by kernel_rfl) (by kernel_rfl) (by kernel_rfl)) ?_
            refine (mnew_ok rows cols _ (by omega) (by omega) (by omega) (by omega)).mono ?_
            rintro e W16 ⟨g11, a12, cr13, rs14, rfl, H_, hqrs14⟩
            have hR15 : MRep rs14 cols (List.replicate rows.toNat ([] : List Int)) := by rw [hqrs14]; exact MRep.zero (by omega)
            have hlrs14 : rs14.length = rows.toNat := by rw [hqrs14, List.length_replicate]
            refine ⟨_, rfl, ?_⟩
            replace HS : St W (owns []) W16 [blk g11 [.slice (some ⟨a12, 0, none⟩) rs14.length cr13, .int .i64 cols] 87, row (some ⟨a12, 0, none⟩) rs14.length cr13 (cf cpt rs14) 32 1, many (rsE 77 74 cols rs14)] := HS.join (F := []) (G := [blk g11 [.slice (some ⟨a12, 0, none⟩) rs14.length cr13, .int .i64 cols] 87, row (some ⟨a12, 0, none⟩) rs14.length cr13 (cf cpt rs14) 32 1, many (rsE 77 74 cols rs14)]) H_
            clear H_
            refine ql (.tuple #[.pointer (some ⟨g11, 0, none⟩), .int .i64 0]) (by kernel_rfl) (by kernel_rfl) ?_
            refine ql (.pointer (some ⟨g11, 0, none⟩)) (by kernel_rfl) (by kernel_rfl) ?_
            refine ql (.int .i64 0) (by kernel_rfl) (by kernel_rfl) ?_
            refine ql (.pointer (some ⟨g11, 0, none⟩)) (by kernel_rfl) (by kernel_rfl) ?_
            refine ql (.int .i64 0) (by kernel_rfl) (by kernel_rfl) ?_
            refine wpList_nil ?_
            refine x_then ?_
            refine wp_seq ?_
            refine wp_seq ?_
            refine wp_region_lit ?_
            refine ql (.pointer (some ⟨g11, 0, none⟩)) (by kernel_rfl) (by kernel_rfl) ?_
            refine ql (.bool false) (by kernel_rfl) (by kernel_rfl) ?_
            refine ql (.bool false) (by kernel_rfl) (by kernel_rfl) ?_
            refine ql (.int .i64 0) (by kernel_rfl) (by kernel_rfl) ?_
            refine ql (.bool false) (by kernel_rfl) (R_beq (b := ((0 : Int) != 0)) (by kernel_rfl) (by decide)) ?_
            refine ql (.bool false) (by kernel_rfl) (by kernel_rfl) ?_
            refine wpList_nil ?_
            refine x_then ?_
            refine wp_cond_false (by kernel_rfl) ?_
            refine wp_skip ?_
            refine x_then ?_
            refine wp_seq ?_
            refine wp_seq ?_
            refine wp_region_lit ?_
            refine ql (.int .i64 0) (by kernel_rfl) (by kernel_rfl) ?_
            refine wpList_nil ?_
            refine x_then ?_
            refine wp_block ?_
            refine wp_loop_ghost (fun kq a' w' => ∃ (J17 : Nat → Value) (k : Int) (rs_ : List Rw) (Ls_ : List (List Int)) , a' = Fr ((.int .i64 rows) :: (.int .i64 cols) :: (.slice Al l.length cl) :: undef :: undef :: undef :: ((J17 6)) :: (.pointer (some ⟨g11, 0, none⟩)) :: (.int .i64 0) :: (.int .i64 k) :: ((J17 10)) :: ((J17 11)) :: ((J17 12)) :: undef :: undef :: undef :: undef :: undef :: undef :: (.int .i64 rows) :: (.bool false) :: (.bool false) :: (.int .i64 cols) :: (.bool false) :: (.bool false) :: (.bool false) :: (.int .i64 rows) :: (.bool false) :: (.bool false) :: (.bool false) :: (.int .i64 cols) :: (.bool false) :: (.bool false) :: (.bool false) :: (.slice Al l.length cl) :: (.int .i64 (l.length : Int)) :: (.bool false) :: (.bool false) :: undef :: (.tuple #[.pointer (some ⟨g11, 0, none⟩), .int .i64 0]) :: (.int .i64 rows) :: (.int .i64 cols) :: (.tuple #[.pointer (some ⟨g11, 0, none⟩), .int .i64 0]) :: (.pointer (some ⟨g11, 0, none⟩)) :: (.int .i64 0) :: (.pointer (some ⟨g11, 0, none⟩)) :: (.bool false) :: (.bool false) :: (.int .i64 0) :: (.bool false) :: (.bool false) :: ((J17 51)) :: ((J17 52)) :: ((J17 53)) :: ((J17 54)) :: ((J17 55)) :: ((J17 56)) :: ((J17 57)) :: ((J17 58)) :: ((J17 59)) :: ((J17 60)) :: ((J17 61)) :: ((J17 62)) :: ((J17 63)) :: ((J17 64)) :: ((J17 65)) :: ((J17 66)) :: ((J17 67)) :: ((J17 68)) :: ((J17 69)) :: ((J17 70)) :: ((J17 71)) :: ((J17 72)) :: ((J17 73)) :: ((J17 74)) :: ((J17 75)) :: ((J17 76)) :: ((J17 77)) :: ((J17 78)) :: ((J17 79)) :: ((J17 80)) :: ((J17 81)) :: ((J17 82)) :: ((J17 83)) :: ((J17 84)) :: ((J17 85)) :: ((J17 86)) :: ((J17 87)) :: ((J17 88)) :: ((J17 89)) :: ((J17 90)) :: ((J17 91)) :: ((J17 92)) :: ((J17 93)) :: ((J17 94)) :: ((J17 95)) :: ((J17 96)) :: ((J17 97)) :: ((J17 98)) :: ((J17 99)) :: ((J17 100)) :: ((J17 101)) :: ((J17 102)) :: ((J17 103)) :: ((J17 104)) :: ((J17 105)) :: ((J17 106)) :: ((J17 107)) :: ((J17 108)) :: ((J17 109)) :: ((J17 110)) :: ((J17 111)) :: ((J17 112)) :: ((J17 113)) :: ((J17 114)) :: ((J17 115)) :: ((J17 116)) :: ((J17 117)) :: ((J17 118)) :: ((J17 119)) :: ((J17 120)) :: ((J17 121)) :: ((J17 122)) :: ((J17 123)) :: ((J17 124)) :: ((J17 125)) :: ((J17 126)) :: ((J17 127)) :: ((J17 128)) :: ((J17 129)) :: ((J17 130)) :: ((J17 131)) :: ((J17 132)) :: ((J17 133)) :: ((J17 134)) :: ((J17 135)) :: undef :: undef :: undef :: undef :: undef :: undef :: undef :: undef :: undef :: undef :: undef :: undef :: undef :: undef :: undef :: undef :: undef :: undef :: undef :: undef :: undef :: undef :: undef :: undef :: undef :: undef :: undef :: undef :: undef :: undef :: undef :: undef :: undef :: undef :: undef :: undef :: undef :: undef :: undef :: undef :: undef :: undef :: undef :: undef :: undef :: undef :: undef :: undef :: undef :: []) ∧ kq = (l.length - (k).toNat) ∧ (0 ≤ k) ∧ (k ≤ l.length) ∧ (MRep rs_ cols Ls_) ∧ ((rs_.length : Int) = rows) ∧ St W (owns []) w' [blk g11 [.slice (some ⟨a12, 0, none⟩) rs_.length cr13, .int .i64 cols] 87, row (some ⟨a12, 0, none⟩) rs_.length cr13 (cf cpt rs_) 32 1, many (rsE 77 74 cols rs_)]) (l.length - ((0 : Int)).toNat) ⟨(fun k_ : Nat => List.getD ((.int .i64 rows) :: (.int .i64 cols) :: (.slice Al l.length cl) :: undef :: undef :: undef :: (.bool false) :: (.pointer (some ⟨g11, 0, none⟩)) :: (.int .i64 0) :: (.int .i64 0) :: undef :: undef :: undef :: undef :: undef :: undef :: undef :: undef :: undef :: (.int .i64 rows) :: (.bool false) :: (.bool false) :: (.int .i64 cols) :: (.bool false) :: (.bool false) :: (.bool false) :: (.int .i64 rows) :: (.bool false) :: (.bool false) :: (.bool false) :: (.int .i64 cols) :: (.bool false) :: (.bool false) :: (.bool false) :: (.slice Al l.length cl) :: (.int .i64 (l.length : Int)) :: (.bool false) :: (.bool false) :: undef :: (.tuple #[.pointer (some ⟨g11, 0, none⟩), .int .i64 0]) :: (.int .i64 rows) :: (.int .i64 cols) :: (.tuple #[.pointer (some ⟨g11, 0, none⟩), .int .i64 0]) :: (.pointer (some ⟨g11, 0, none⟩)) :: (.int .i64 0) :: (.pointer (some ⟨g11, 0, none⟩)) :: (.bool false) :: (.bool false) :: (.int .i64 0) :: (.bool false) :: (.bool false) :: undef :: undef :: undef :: undef :: undef :: undef :: undef :: undef :: undef :: undef :: undef :: undef :: undef :: undef :: undef :: undef :: undef :: undef :: undef :: undef :: undef :: undef :: undef :: undef :: undef :: undef :: undef :: undef :: undef :: undef :: undef :: undef :: undef :: undef :: undef :: undef :: undef :: undef :: undef :: undef :: undef :: undef :: undef :: undef :: undef :: undef :: undef :: undef :: undef :: undef :: undef :: undef :: undef :: undef :: undef :: undef :: undef :: undef :: undef :: undef :: undef :: undef :: undef :: undef :: undef :: undef :: undef :: undef :: undef :: undef :: undef :: undef :: undef :: undef :: undef :: undef :: undef :: undef :: undef :: undef :: undef :: undef :: undef :: undef :: undef :: undef :: undef :: undef :: undef :: undef :: undef :: undef :: undef :: undef :: undef :: undef :: undef :: undef :: undef :: undef :: undef :: undef :: undef :: undef :: undef :: undef :: undef :: undef :: undef :: undef :: undef :: undef :: undef :: undef :: undef :: undef :: undef :: undef :: undef :: undef :: undef :: undef :: undef :: undef :: undef :: undef :: undef :: undef :: undef :: undef :: undef :: undef :: undef :: undef :: []) k_ undef), (0 : Int), rs14, (List.replicate rows.toNat ([] : List Int)), congrArg Fr (by kernel_rfl), rfl, by omega, by omega, hR15, (by omega), HS⟩ ?_
            clear HS
            intro kq18 a' W19 hrel
            obtain ⟨J17, k, rs_, Ls_, rfl, hk, k0, k1, hRk, hlk, HS⟩ := hrel
            have hLl := hRk.len
            refine wp_seq ?_
            refine wp_seq ?_
            refine wp_region_lit ?_
            refine ql (.int .i64 k) (by kernel_rfl) (by kernel_rfl) ?_
            refine ql (.slice Al l.length cl) (by kernel_rfl) (by kernel_rfl) ?_
            refine ql (.int .i64 (l.length : Int)) (by kernel_rfl) (by kernel_rfl) ?_
            by_cases hc20 : k < (l.length : Int)
            · skip
              refine ql (.bool true) (by kernel_rfl) (R_bool (p := k < (l.length : Int)) (by kernel_rfl) (hc20)) ?_
              refine wpList_nil ?_
              refine x_then ?_
              refine wp_cond_true (by kernel_rfl) ?_
              refine wp_skip ?_
              refine x_then ?_
              refine wp_seq ?_
              refine wp_block ?_
              refine wp_seq ?_
              refine rg_still HS 11 (by kernel_rfl) (by kernel_rfl) ?_
              intro W21 H_ HK_
              simp only [List.take_succ_cons, List.take_zero, List.drop_succ_cons, List.drop_zero]
              replace HS : St W (owns []) W21 [blk g11 [.slice (some ⟨a12, 0, none⟩) rs_.length cr13, .int .i64 cols] 87, row (some ⟨a12, 0, none⟩) rs_.length cr13 (cf cpt rs_) 32 1, many (rsE 77 74 cols rs_)] := H_
              clear H_
              clear HK_
              refine qs (.pointer (some ⟨g11, 0, none⟩)) (by kernel_rfl) (by kernel_rfl) ?_
              refine qs (.slice Al l.length cl) (by kernel_rfl) (by kernel_rfl) ?_
              refine qs (.int .i64 k) (by kernel_rfl) (by kernel_rfl) ?_
              obtain ⟨ad22, rfl⟩ := Rd.isSome_ hra (by rw [cf_len (z := 2) (fun _ => rfl)]; omega)
              refine qs (.pointer (some (ad22.add (k.toNat * 2)))) (by kernel_rfl) (R_indexA (k := .i64) (p := ad22) (n := l.length) (c := cl) (i := k) (by kernel_rfl) (by kernel_rfl) Tryd.underlying44 (by kernel_rfl) (by omega) (by omega)) ?_
              refine qs (.pointer (some (ad22.add (k.toNat * 2)))) (by kernel_rfl) (by kernel_rfl) ?_
              refine qs (.int .i64 ((gx l k).1)) (by kernel_rfl) (R_load (p := ad22.add (k.toNat * 2)) (by kernel_rfl) (by kernel_rfl) (by kernel_rfl) (HS.old0 (Rd.elem0 (f := actD) (fun _ => rfl) hra (gx_eq (by omega) (by omega)) rfl))) ?_
              refine qs (.slice (some ad22) l.length cl) (by kernel_rfl) (by kernel_rfl) ?_
              refine qs (.int .i64 k) (by kernel_rfl) (by kernel_rfl) ?_
              refine qs (.pointer (some (ad22.add (k.toNat * 2)))) (by kernel_rfl) (R_indexA (k := .i64) (p := ad22) (n := l.length) (c := cl) (i := k) (by kernel_rfl) (by kernel_rfl) Tryd.underlying44 (by kernel_rfl) (by omega) (by omega)) ?_
              refine qs (.pointer (some ((ad22.add (k.toNat * 2)).add 1))) (by kernel_rfl) (by kernel_rfl) ?_
              refine qs (.int .i64 ((gx l k).2)) (by kernel_rfl) (R_load (p := (ad22.add (k.toNat * 2)).add 1) (by kernel_rfl) (by kernel_rfl) (by kernel_rfl) (HS.old0 (Rd.elem1 (k := 1) (f := actD) (fun _ => rfl) hra (gx_eq (by omega) (by omega)) rfl))) ?_
              refine wpStill_nil ?_
              refine qc (f := 28) (args := #[.pointer (some ⟨g11, 0, none⟩), .int .i64 ((gx l k).1), .int .i64 ((gx l k).2)]) (by kernel_rfl) (R_call #[.pointer (some ⟨g11, 0, none⟩), .int .i64 ((gx l k).1), .int .i64 ((gx l k).2)] Tryd.func28 (by kernel_rfl) (by kernel_rfl) (by kernel_rfl)) ?_
              by_cases hin : 0 ≤ (gx l k).1 ∧ (gx l k).1 < Ls_.length ∧ 0 ≤ (gx l k).2 ∧ (gx l k).2 < cols
              · skip
                by_cases hw : (gx l k).2 ∈ rowL Ls_ (gx l k).1
                · skip
                  have hdx : decide ((gx l k).2 ∈ rowL Ls_ (gx l k).1) = true := decide_eq_true hw
                  refine (mhas g11 cr13 (some ⟨a12, 0, none⟩) cols rs_ Ls_ ((gx l k).1) ((gx l k).2) _ (Mr.of HS (i := 0) (j := 1) (m := 2) rfl rfl rfl) hRk (by omega) (by omega)).mono ?_
                  rintro e W23 ⟨rfl, H_⟩
                  rw [hdx]
                  refine ⟨_, rfl, ?_⟩
                  replace HS : St W (owns []) W23 [blk g11 [.slice (some ⟨a12, 0, none⟩) rs_.length cr13, .int .i64 cols] 87, row (some ⟨a12, 0, none⟩) rs_.length cr13 (cf cpt rs_) 32 1, many (rsE 77 74 cols rs_)] := HS.join (F := []) (G := []) H_
                  clear H_
                  refine ql (.bool true) (by kernel_rfl) (by kernel_rfl) ?_
                  refine wpList_nil ?_
                  refine x_then ?_
                  refine wp_seq ?_
                  refine rg_still HS 11 (by kernel_rfl) (by kernel_rfl) ?_
                  intro W24 H_ HK_
                  simp only [List.take_succ_cons, List.take_zero, List.drop_succ_cons, List.drop_zero]
                  replace HS : St W (owns []) W24 [blk g11 [.slice (some ⟨a12, 0, none⟩) rs_.length cr13, .int .i64 cols] 87, row (some ⟨a12, 0, none⟩) rs_.length cr13 (cf cpt rs_) 32 1, many (rsE 77 74 cols rs_)] := H_
                  clear H_
                  clear HK_
                  refine qs (.pointer (some ⟨g11, 0, none⟩)) (by kernel_rfl) (by kernel_rfl) ?_
                  refine qs (.slice (some ad22) l.length cl) (by kernel_rfl) (by kernel_rfl) ?_
                  refine qs (.int .i64 k) (by kernel_rfl) (by kernel_rfl) ?_
                  refine qs (.pointer (some (ad22.add (k.toNat * 2)))) (by kernel_rfl) (R_indexA (k := .i64) (p := ad22) (n := l.length) (c := cl) (i := k) (by kernel_rfl) (by kernel_rfl) Tryd.underlying44 (by kernel_rfl) (by omega) (by omega)) ?_
                  refine qs (.pointer (some (ad22.add (k.toNat * 2)))) (by kernel_rfl) (by kernel_rfl) ?_
                  refine qs (.int .i64 ((gx l k).1)) (by kernel_rfl) (R_load (p := ad22.add (k.toNat * 2)) (by kernel_rfl) (by kernel_rfl) (by kernel_rfl) (HS.old0 (Rd.elem0 (f := actD) (fun _ => rfl) hra (gx_eq (by omega) (by omega)) rfl))) ?_
                  refine qs (.slice (some ad22) l.length cl) (by kernel_rfl) (by kernel_rfl) ?_
                  refine qs (.int .i64 k) (by kernel_rfl) (by kernel_rfl) ?_
                  refine qs (.pointer (some (ad22.add (k.toNat * 2)))) (by kernel_rfl) (R_indexA (k := .i64) (p := ad22) (n := l.length) (c := cl) (i := k) (by kernel_rfl) (by kernel_rfl) Tryd.underlying44 (by kernel_rfl) (by omega) (by omega)) ?_
                  refine qs (.pointer (some ((ad22.add (k.toNat * 2)).add 1))) (by kernel_rfl) (by kernel_rfl) ?_
                  refine qs (.int .i64 ((gx l k).2)) (by kernel_rfl) (R_load (p := (ad22.add (k.toNat * 2)).add 1) (by kernel_rfl) (by kernel_rfl) (by kernel_rfl) (HS.old0 (Rd.elem1 (k := 1) (f := actD) (fun _ => rfl) hra (gx_eq (by omega) (by omega)) rfl))) ?_
                  refine wpStill_nil ?_
                  refine qc (f := 36) (args := #[.pointer (some ⟨g11, 0, none⟩), .int .i64 ((gx l k).1), .int .i64 ((gx l k).2)]) (by kernel_rfl) (R_call #[.pointer (some ⟨g11, 0, none⟩), .int .i64 ((gx l k).1), .int .i64 ((gx l k).2)] Tryd.func36 (by kernel_rfl) (by kernel_rfl) (by kernel_rfl)) ?_
                  refine (madd g11 cr13 (some ⟨a12, 0, none⟩) cols rs_ Ls_ (gx l k).1 (gx l k).2 _ _ (St.focus (F := [blk g11 [.slice (some ⟨a12, 0, none⟩) rs_.length cr13, .int .i64 cols] 87, row (some ⟨a12, 0, none⟩) rs_.length cr13 (cf cpt rs_) 32 1, many (rsE 77 74 cols rs_)]) HS) hRk (by omega) (by omega)).mono ?_
                  rintro e W27 ⟨rs25, rfl, H_, hR26, hlrs25⟩
                  rw [(addM_has hin.1 hin.2.1 hin.2.2.1 hin.2.2.2).2, decide_eq_false (fun h_ => h_ hw)]
                  refine ⟨_, rfl, ?_⟩
                  replace HS : St W (owns []) W27 [blk g11 [.slice (some ⟨a12, 0, none⟩) rs25.length cr13, .int .i64 cols] 87, row (some ⟨a12, 0, none⟩) rs25.length cr13 (cf cpt rs25) 32 1, many (rsE 77 74 cols rs25)] := HS.join (F := [blk g11 [.slice (some ⟨a12, 0, none⟩) rs_.length cr13, .int .i64 cols] 87, row (some ⟨a12, 0, none⟩) rs_.length cr13 (cf cpt rs_) 32 1, many (rsE 77 74 cols rs_)]) (G := [blk g11 [.slice (some ⟨a12, 0, none⟩) rs25.length cr13, .int .i64 cols] 87, row (some ⟨a12, 0, none⟩) rs25.length cr13 (cf cpt rs25) 32 1, many (rsE 77 74 cols rs25)]) H_
                  clear H_
                  refine ql (.bool false) (by kernel_rfl) (by kernel_rfl) ?_
                  refine wpList_nil ?_
                  refine x_then ?_
                  refine wp_seq ?_
                  refine wp_region_lit ?_
                  refine ql (.slice (some ad22) l.length cl) (by kernel_rfl) (by kernel_rfl) ?_
                  refine ql (.int .i64 k) (by kernel_rfl) (by kernel_rfl) ?_
                  refine ql (.pointer (some (ad22.add (k.toNat * 2)))) (by kernel_rfl) (R_indexA (k := .i64) (p := ad22) (n := l.length) (c := cl) (i := k) (by kernel_rfl) (by kernel_rfl) Tryd.underlying44 (by kernel_rfl) (by omega) (by omega)) ?_
                  refine ql (.pointer (some (ad22.add (k.toNat * 2)))) (by kernel_rfl) (by kernel_rfl) ?_
                  refine ql (.int .i64 ((gx l k).1)) (by kernel_rfl) (R_load (p := ad22.add (k.toNat * 2)) (by kernel_rfl) (by kernel_rfl) (by kernel_rfl) (HS.old0 (Rd.elem0 (f := actD) (fun _ => rfl) hra (gx_eq (by omega) (by omega)) rfl))) ?_
                  refine ql (.bool true) (by kernel_rfl) (R_bool (p := ((gx l k).1) ≥ (0 : Int)) (by kernel_rfl) (by omega)) ?_
                  refine ql (.bool true) (by kernel_rfl) (by kernel_rfl) ?_
                  refine ql (.slice (some ad22) l.length cl) (by kernel_rfl) (by kernel_rfl) ?_
                  refine ql (.int .i64 k) (by kernel_rfl) (by kernel_rfl) ?_
                  refine ql (.pointer (some (ad22.add (k.toNat * 2)))) (by kernel_rfl) (R_indexA (k := .i64) (p := ad22) (n := l.length) (c := cl) (i := k) (by kernel_rfl) (by kernel_rfl) Tryd.underlying44 (by kernel_rfl) (by omega) (by omega)) ?_
                  refine ql (.pointer (some (ad22.add (k.toNat * 2)))) (by kernel_rfl) (by kernel_rfl) ?_
                  refine ql (.int .i64 ((gx l k).1)) (by kernel_rfl) (R_load (p := ad22.add (k.toNat * 2)) (by kernel_rfl) (by kernel_rfl) (by kernel_rfl) (HS.old0 (Rd.elem0 (f := actD) (fun _ => rfl) hra (gx_eq (by omega) (by omega)) rfl))) ?_
                  refine ql (.int .i64 rows) (by kernel_rfl) (by kernel_rfl) ?_
                  refine ql (.bool true) (by kernel_rfl) (R_bool (p := ((gx l k).1) < rows) (by kernel_rfl) (by omega)) ?_
                  refine ql (.bool true) (by kernel_rfl) (by kernel_rfl) ?_
                  refine ql (.bool true) (by kernel_rfl) (by kernel_rfl) ?_
                  refine ql (.slice (some ad22) l.length cl) (by kernel_rfl) (by kernel_rfl) ?_
                  refine ql (.int .i64 k) (by kernel_rfl) (by kernel_rfl) ?_
                  refine ql (.pointer (some (ad22.add (k.toNat * 2)))) (by kernel_rfl) (R_indexA (k := .i64) (p := ad22) (n := l.length) (c := cl) (i := k) (by kernel_rfl) (by kernel_rfl) Tryd.underlying44 (by kernel_rfl) (by omega) (by omega)) ?_
                  refine ql (.pointer (some ((ad22.add (k.toNat * 2)).add 1))) (by kernel_rfl) (by kernel_rfl) ?_
                  refine ql (.int .i64 ((gx l k).2)) (by kernel_rfl) (R_load (p := (ad22.add (k.toNat * 2)).add 1) (by kernel_rfl) (by kernel_rfl) (by kernel_rfl) (HS.old0 (Rd.elem1 (k := 1) (f := actD) (fun _ => rfl) hra (gx_eq (by omega) (by omega)) rfl))) ?_
                  refine ql (.bool true) (by kernel_rfl) (R_bool (p := ((gx l k).2) ≥ (0 : Int)) (by kernel_rfl) (by omega)) ?_
                  refine ql (.bool true) (by kernel_rfl) (by kernel_rfl) ?_
                  refine ql (.bool true) (by kernel_rfl) (by kernel_rfl) ?_
                  refine ql (.slice (some ad22) l.length cl) (by kernel_rfl) (by kernel_rfl) ?_
                  refine ql (.int .i64 k) (by kernel_rfl) (by kernel_rfl) ?_
                  refine ql (.pointer (some (ad22.add (k.toNat * 2)))) (by kernel_rfl) (R_indexA (k := .i64) (p := ad22) (n := l.length) (c := cl) (i := k) (by kernel_rfl) (by kernel_rfl) Tryd.underlying44 (by kernel_rfl) (by omega) (by omega)) ?_
                  refine ql (.pointer (some ((ad22.add (k.toNat * 2)).add 1))) (by kernel_rfl) (by kernel_rfl) ?_
                  refine ql (.int .i64 ((gx l k).2)) (by kernel_rfl) (R_load (p := (ad22.add (k.toNat * 2)).add 1) (by kernel_rfl) (by kernel_rfl) (by kernel_rfl) (HS.old0 (Rd.elem1 (k := 1) (f := actD) (fun _ => rfl) hra (gx_eq (by omega) (by omega)) rfl))) ?_
                  refine ql (.int .i64 cols) (by kernel_rfl) (by kernel_rfl) ?_
                  refine ql (.bool true) (by kernel_rfl) (R_bool (p := ((gx l k).2) < cols) (by kernel_rfl) (by omega)) ?_
                  refine ql (.bool true) (by kernel_rfl) (by kernel_rfl) ?_
                  refine ql (.bool true) (by kernel_rfl) (by kernel_rfl) ?_
                  refine wpList_nil ?_
                  refine x_then ?_
                  refine wp_seq ?_
                  refine t_start HS (fun _ => False) 23 (by kernel_rfl) rfl ?_
                  intro W28 H_ HD_
                  clear HD_
                  replace HS : St W (owns []) W28 [blk g11 [.slice (some ⟨a12, 0, none⟩) rs25.length cr13, .int .i64 cols] 87, row (some ⟨a12, 0, none⟩) rs25.length cr13 (cf cpt rs25) 32 1, many (rsE 77 74 cols rs25)] := H_
                  clear H_
                  have HV := HS
                  have HK := Kpt.refl (fun _ => False) W28
                  refine t_q (n := 22) 0 (.bool false) rfl (by kernel_rfl) (by kernel_rfl) (fun _ _ _ h => h) (fun w' hk => (by kernel_rfl)) HK ?_
                  refine t_q (n := 21) 1 (.bool true) rfl (by kernel_rfl) (by kernel_rfl) (fun _ _ _ h => h) (fun w' hk => (by kernel_rfl)) HK ?_
                  refine t_q (n := 20) 2 (.bool true) rfl (by kernel_rfl) (by kernel_rfl) (fun _ _ _ h => h) (fun w' hk => (by kernel_rfl)) HK ?_
                  refine t_q (n := 19) 3 (.bool true) rfl (by kernel_rfl) (by kernel_rfl) (fun _ _ _ h => h) (fun w' hk => (by kernel_rfl)) HK ?_
                  refine t_q (n := 18) 4 (.bool false) rfl (by kernel_rfl) (by kernel_rfl) (fun _ _ _ h => h) (fun w' hk => (by kernel_rfl)) HK ?_
                  refine t_q (n := 17) 5 (.bool false) rfl (by kernel_rfl) (by kernel_rfl) (fun _ _ _ h => h) (fun w' hk => (by kernel_rfl)) HK ?_
                  refine t_q (n := 16) 6 (.bool false) rfl (by kernel_rfl) (by kernel_rfl) (fun _ _ _ h => h) (fun w' hk => (by kernel_rfl)) HK ?_
                  refine t_q (n := 15) 7 (.bool false) rfl (by kernel_rfl) (by kernel_rfl) (fun _ _ _ h => h) (fun w' hk => (by kernel_rfl)) HK ?_
                  refine t_q (n := 14) 8 (.pointer (some ⟨g11, 0, none⟩)) rfl (by kernel_rfl) (by kernel_rfl) (fun _ _ _ h => h) (fun w' hk => (by kernel_rfl)) HK ?_
                  refine t_q (n := 13) 9 (.slice (some ad22) l.length cl) rfl (by kernel_rfl) (by kernel_rfl) (fun _ _ _ h => h) (fun w' hk => (by kernel_rfl)) HK ?_
                  refine t_q (n := 12) 10 (.int .i64 k) rfl (by kernel_rfl) (by kernel_rfl) (fun _ _ _ h => h) (fun w' hk => (by kernel_rfl)) HK ?_
                  refine t_q (n := 11) 11 (.pointer (some (ad22.add (k.toNat * 2)))) rfl (by kernel_rfl) (by kernel_rfl) (fun _ _ _ h => h) (fun w' hk => (R_indexA (k := .i64) (p := ad22) (n := l.length) (c := cl) (i := k) (by kernel_rfl) (by kernel_rfl) Tryd.underlying44 (by kernel_rfl) (by omega) (by omega))) HK ?_
                  refine t_q (n := 10) 12 (.pointer (some (ad22.add (k.toNat * 2)))) rfl (by kernel_rfl) (by kernel_rfl) (fun _ _ _ h => h) (fun w' hk => (by kernel_rfl)) HK ?_
                  refine t_q (n := 9) 13 (.int .i64 ((gx l k).1)) rfl (by kernel_rfl) (by kernel_rfl) (fun _ _ _ h => h) (fun w' hk => (R_load (p := ad22.add (k.toNat * 2)) (by kernel_rfl) (by kernel_rfl) (by kernel_rfl) (hk.cell (HV.old0 (Rd.elem0 (f := actD) (fun _ => rfl) hra (gx_eq (by omega) (by omega)) rfl))))) HK ?_
                  refine t_q (n := 8) 14 (.slice (some ad22) l.length cl) rfl (by kernel_rfl) (by kernel_rfl) (fun _ _ _ h => h) (fun w' hk => (by kernel_rfl)) HK ?_
                  refine t_q (n := 7) 15 (.int .i64 k) rfl (by kernel_rfl) (by kernel_rfl) (fun _ _ _ h => h) (fun w' hk => (by kernel_rfl)) HK ?_
                  refine t_q (n := 6) 16 (.pointer (some (ad22.add (k.toNat * 2)))) rfl (by kernel_rfl) (by kernel_rfl) (fun _ _ _ h => h) (fun w' hk => (R_indexA (k := .i64) (p := ad22) (n := l.length) (c := cl) (i := k) (by kernel_rfl) (by kernel_rfl) Tryd.underlying44 (by kernel_rfl) (by omega) (by omega))) HK ?_
                  refine t_q (n := 5) 17 (.pointer (some ((ad22.add (k.toNat * 2)).add 1))) rfl (by kernel_rfl) (by kernel_rfl) (fun _ _ _ h => h) (fun w' hk => (by kernel_rfl)) HK ?_
                  refine t_q (n := 4) 18 (.int .i64 ((gx l k).2)) rfl (by kernel_rfl) (by kernel_rfl) (fun _ _ _ h => h) (fun w' hk => (R_load (p := (ad22.add (k.toNat * 2)).add 1) (by kernel_rfl) (by kernel_rfl) (by kernel_rfl) (hk.cell (HV.old0 (Rd.elem1 (k := 1) (f := actD) (fun _ => rfl) hra (gx_eq (by omega) (by omega)) rfl))))) HK ?_
                  refine t_q (n := 3) 20 (.bool true) rfl (by kernel_rfl) (by kernel_rfl) (fun _ _ _ h => h) (fun w' hk => (by kernel_rfl)) HK ?_
                  refine t_c (n := 2) 19 (f := 28) (args := #[.pointer (some ⟨g11, 0, none⟩), .int .i64 ((gx l k).1), .int .i64 ((gx l k).2)]) rfl (by kernel_rfl) (by kernel_rfl) (R_call #[.pointer (some ⟨g11, 0, none⟩), .int .i64 ((gx l k).1), .int .i64 ((gx l k).2)] Tryd.func28 (by kernel_rfl) (by kernel_rfl) (by kernel_rfl)) ?_
                  refine (mhas g11 cr13 (some ⟨a12, 0, none⟩) cols rs25 (addM Ls_ cols (gx l k).1 (gx l k).2) ((gx l k).1) ((gx l k).2) _ (Mr.of HS (i := 0) (j := 1) (m := 2) rfl rfl rfl) hR26 (by omega) (by omega)).mono ?_
                  rintro e W29 ⟨rfl, H_⟩
                  rw [decide_eq_true (addM_has hin.1 hin.2.1 hin.2.2.1 hin.2.2.2).1]
                  refine ⟨_, rfl, HK.tr H_.kept.nil, ?_⟩
                  replace HK := HK.tr H_.kept.nil
                  replace HS : St W (owns []) W29 [blk g11 [.slice (some ⟨a12, 0, none⟩) rs25.length cr13, .int .i64 cols] 87, row (some ⟨a12, 0, none⟩) rs25.length cr13 (cf cpt rs25) 32 1, many (rsE 77 74 cols rs25)] := HS.join (F := []) (G := []) H_
                  clear H_
                  refine t_q (n := 1) 21 (.bool false) rfl (by kernel_rfl) (by kernel_rfl) (fun _ _ _ h => h) (fun w' hk => (by kernel_rfl)) HK ?_
                  refine t_q (n := 0) 22 (.bool false) rfl (by kernel_rfl) (by kernel_rfl) (fun _ _ _ h => h) (fun w' hk => (by kernel_rfl)) HK ?_
                  refine t_done (by kernel_rfl) ?_
                  clear HV HK
                  refine x_then ?_
                  refine wp_cond_false (by kernel_rfl) ?_
                  refine wp_skip ?_
                  refine x_inb ?_
                  refine x_then ?_
                  refine wp_region_lit ?_
                  refine ql (.int .i64 k) (by kernel_rfl) (by kernel_rfl) ?_
                  refine ql (.int .i64 (k + 1)) (by kernel_rfl) (R_int (by kernel_rfl) (w64 (by omega))) ?_
                  refine ql (.int .i64 (k + 1)) (by kernel_rfl) (by kernel_rfl) ?_
                  refine wpList_nil ?_
                  refine x_then ?_
                  exact ⟨l.length - (k + 1).toNat, by omega, (fun k_ : Nat => List.getD ((.int .i64 rows) :: (.int .i64 cols) :: (.slice (some ad22) l.length cl) :: undef :: undef :: undef :: ((J17 6)) :: (.pointer (some ⟨g11, 0, none⟩)) :: (.int .i64 0) :: (.int .i64 (k + 1)) :: (.bool true) :: (.bool false) :: (.bool true) :: undef :: undef :: undef :: undef :: undef :: undef :: (.int .i64 rows) :: (.bool false) :: (.bool false) :: (.int .i64 cols) :: (.bool false) :: (.bool false) :: (.bool false) :: (.int .i64 rows) :: (.bool false) :: (.bool false) :: (.bool false) :: (.int .i64 cols) :: (.bool false) :: (.bool false) :: (.bool false) :: (.slice (some ad22) l.length cl) :: (.int .i64 (l.length : Int)) :: (.bool false) :: (.bool false) :: undef :: (.tuple #[.pointer (some ⟨g11, 0, none⟩), .int .i64 0]) :: (.int .i64 rows) :: (.int .i64 cols) :: (.tuple #[.pointer (some ⟨g11, 0, none⟩), .int .i64 0]) :: (.pointer (some ⟨g11, 0, none⟩)) :: (.int .i64 0) :: (.pointer (some ⟨g11, 0, none⟩)) :: (.bool false) :: (.bool false) :: (.int .i64 0) :: (.bool false) :: (.bool false) :: (.int .i64 k) :: (.slice (some ad22) l.length cl) :: (.int .i64 (l.length : Int)) :: (.bool true) :: (.int .i64 k) :: (.int .i64 (k + 1)) :: (.pointer (some ⟨g11, 0, none⟩)) :: (.slice (some ad22) l.length cl) :: (.int .i64 k) :: (.pointer (some (ad22.add (k.toNat * 2)))) :: (.pointer (some (ad22.add (k.toNat * 2)))) :: (.int .i64 ((gx l k).1)) :: (.slice (some ad22) l.length cl) :: (.int .i64 k) :: (.pointer (some (ad22.add (k.toNat * 2)))) :: (.pointer (some ((ad22.add (k.toNat * 2)).add 1))) :: (.int .i64 ((gx l k).2)) :: (.bool true) :: (.pointer (some ⟨g11, 0, none⟩)) :: (.slice (some ad22) l.length cl) :: (.int .i64 k) :: (.pointer (some (ad22.add (k.toNat * 2)))) :: (.pointer (some (ad22.add (k.toNat * 2)))) :: (.int .i64 ((gx l k).1)) :: (.slice (some ad22) l.length cl) :: (.int .i64 k) :: (.pointer (some (ad22.add (k.toNat * 2)))) :: (.pointer (some ((ad22.add (k.toNat * 2)).add 1))) :: (.int .i64 ((gx l k).2)) :: (.bool false) :: (.slice (some ad22) l.length cl) :: (.int .i64 k) :: (.pointer (some (ad22.add (k.toNat * 2)))) :: (.pointer (some (ad22.add (k.toNat * 2)))) :: (.int .i64 ((gx l k).1)) :: (.bool true) :: (.bool true) :: (.slice (some ad22) l.length cl) :: (.int .i64 k) :: (.pointer (some (ad22.add (k.toNat * 2)))) :: (.pointer (some (ad22.add (k.toNat * 2)))) :: (.int .i64 ((gx l k).1)) :: (.int .i64 rows) :: (.bool true) :: (.bool true) :: (.bool true) :: (.slice (some ad22) l.length cl) :: (.int .i64 k) :: (.pointer (some (ad22.add (k.toNat * 2)))) :: (.pointer (some ((ad22.add (k.toNat * 2)).add 1))) :: (.int .i64 ((gx l k).2)) :: (.bool true) :: (.bool true) :: (.bool true) :: (.slice (some ad22) l.length cl) :: (.int .i64 k) :: (.pointer (some (ad22.add (k.toNat * 2)))) :: (.pointer (some ((ad22.add (k.toNat * 2)).add 1))) :: (.int .i64 ((gx l k).2)) :: (.int .i64 cols) :: (.bool true) :: (.bool true) :: (.bool false) :: (.bool true) :: (.bool true) :: (.bool true) :: (.bool false) :: (.bool false) :: (.bool false) :: (.bool false) :: (.pointer (some ⟨g11, 0, none⟩)) :: (.slice (some ad22) l.length cl) :: (.int .i64 k) :: (.pointer (some (ad22.add (k.toNat * 2)))) :: (.pointer (some (ad22.add (k.toNat * 2)))) :: (.int .i64 ((gx l k).1)) :: (.slice (some ad22) l.length cl) :: (.int .i64 k) :: (.pointer (some (ad22.add (k.toNat * 2)))) :: (.pointer (some ((ad22.add (k.toNat * 2)).add 1))) :: (.int .i64 ((gx l k).2)) :: (.bool true) :: (.bool true) :: (.bool false) :: (.bool false) :: undef :: undef :: undef :: undef :: undef :: undef :: undef :: undef :: undef :: undef :: undef :: undef :: undef :: undef :: undef :: undef :: undef :: undef :: undef :: undef :: undef :: undef :: undef :: undef :: undef :: undef :: undef :: undef :: undef :: undef :: undef :: undef :: undef :: undef :: undef :: undef :: undef :: undef :: undef :: undef :: undef :: undef :: undef :: undef :: undef :: undef :: undef :: undef :: undef :: []) k_ undef), k + 1, rs25, (addM Ls_ cols (gx l k).1 (gx l k).2), congrArg Fr (by kernel_rfl), rfl, by omega, by omega, hR26, (by omega), HS⟩
                · skip
                  have hdx : decide ((gx l k).2 ∈ rowL Ls_ (gx l k).1) = false := decide_eq_false hw
                  refine (mhas g11 cr13 (some ⟨a12, 0, none⟩) cols rs_ Ls_ ((gx l k).1) ((gx l k).2) _ (Mr.of HS (i := 0) (j := 1) (m := 2) rfl rfl rfl) hRk (by omega) (by omega)).mono ?_
                  rintro e W30 ⟨rfl, H_⟩
                  rw [hdx]
                  refine ⟨_, rfl, ?_⟩
                  replace HS : St W (owns []) W30 [blk g11 [.slice (some ⟨a12, 0, none⟩) rs_.length cr13, .int .i64 cols] 87, row (some ⟨a12, 0, none⟩) rs_.length cr13 (cf cpt rs_) 32 1, many (rsE 77 74 cols rs_)] := HS.join (F := []) (G := []) H_
                  clear H_
                  refine ql (.bool false) (by kernel_rfl) (by kernel_rfl) ?_
                  refine wpList_nil ?_
                  refine x_then ?_
                  refine wp_seq ?_
                  refine rg_still HS 11 (by kernel_rfl) (by kernel_rfl) ?_
                  intro W31 H_ HK_
                  simp only [List.take_succ_cons, List.take_zero, List.drop_succ_cons, List.drop_zero]
                  replace HS : St W (owns []) W31 [blk g11 [.slice (some ⟨a12, 0, none⟩) rs_.length cr13, .int .i64 cols] 87, row (some ⟨a12, 0, none⟩) rs_.length cr13 (cf cpt rs_) 32 1, many (rsE 77 74 cols rs_)] := H_
                  clear H_
                  clear HK_
                  refine qs (.pointer (some ⟨g11, 0, none⟩)) (by kernel_rfl) (by kernel_rfl) ?_
                  refine qs (.slice (some ad22) l.length cl) (by kernel_rfl) (by kernel_rfl) ?_
                  refine qs (.int .i64 k) (by kernel_rfl) (by kernel_rfl) ?_
                  refine qs (.pointer (some (ad22.add (k.toNat * 2)))) (by kernel_rfl) (R_indexA (k := .i64) (p := ad22) (n := l.length) (c := cl) (i := k) (by kernel_rfl) (by kernel_rfl) Tryd.underlying44 (by kernel_rfl) (by omega) (by omega)) ?_
                  refine qs (.pointer (some (ad22.add (k.toNat * 2)))) (by kernel_rfl) (by kernel_rfl) ?_
                  refine qs (.int .i64 ((gx l k).1)) (by kernel_rfl) (R_load (p := ad22.add (k.toNat * 2)) (by kernel_rfl) (by kernel_rfl) (by kernel_rfl) (HS.old0 (Rd.elem0 (f := actD) (fun _ => rfl) hra (gx_eq (by omega) (by omega)) rfl))) ?_
                  refine qs (.slice (some ad22) l.length cl) (by kernel_rfl) (by kernel_rfl) ?_
                  refine qs (.int .i64 k) (by kernel_rfl) (by kernel_rfl) ?_
                  refine qs (.pointer (some (ad22.add (k.toNat * 2)))) (by kernel_rfl) (R_indexA (k := .i64) (p := ad22) (n := l.length) (c := cl) (i := k) (by kernel_rfl) (by kernel_rfl) Tryd.underlying44 (by kernel_rfl) (by omega) (by omega)) ?_
                  refine qs (.pointer (some ((ad22.add (k.toNat * 2)).add 1))) (by kernel_rfl) (by kernel_rfl) ?_
                  refine qs (.int .i64 ((gx l k).2)) (by kernel_rfl) (R_load (p := (ad22.add (k.toNat * 2)).add 1) (by kernel_rfl) (by kernel_rfl) (by kernel_rfl) (HS.old0 (Rd.elem1 (k := 1) (f := actD) (fun _ => rfl) hra (gx_eq (by omega) (by omega)) rfl))) ?_
                  refine wpStill_nil ?_
                  refine qc (f := 36) (args := #[.pointer (some ⟨g11, 0, none⟩), .int .i64 ((gx l k).1), .int .i64 ((gx l k).2)]) (by kernel_rfl) (R_call #[.pointer (some ⟨g11, 0, none⟩), .int .i64 ((gx l k).1), .int .i64 ((gx l k).2)] Tryd.func36 (by kernel_rfl) (by kernel_rfl) (by kernel_rfl)) ?_
                  refine (madd g11 cr13 (some ⟨a12, 0, none⟩) cols rs_ Ls_ (gx l k).1 (gx l k).2 _ _ (St.focus (F := [blk g11 [.slice (some ⟨a12, 0, none⟩) rs_.length cr13, .int .i64 cols] 87, row (some ⟨a12, 0, none⟩) rs_.length cr13 (cf cpt rs_) 32 1, many (rsE 77 74 cols rs_)]) HS) hRk (by omega) (by omega)).mono ?_
                  rintro e W34 ⟨rs32, rfl, H_, hR33, hlrs32⟩
                  rw [(addM_has hin.1 hin.2.1 hin.2.2.1 hin.2.2.2).2, decide_eq_true hw]
                  refine ⟨_, rfl, ?_⟩
                  replace HS : St W (owns []) W34 [blk g11 [.slice (some ⟨a12, 0, none⟩) rs32.length cr13, .int .i64 cols] 87, row (some ⟨a12, 0, none⟩) rs32.length cr13 (cf cpt rs32) 32 1, many (rsE 77 74 cols rs32)] := HS.join (F := [blk g11 [.slice (some ⟨a12, 0, none⟩) rs_.length cr13, .int .i64 cols] 87, row (some ⟨a12, 0, none⟩) rs_.length cr13 (cf cpt rs_) 32 1, many (rsE 77 74 cols rs_)]) (G := [blk g11 [.slice (some ⟨a12, 0, none⟩) rs32.length cr13, .int .i64 cols] 87, row (some ⟨a12, 0, none⟩) rs32.length cr13 (cf cpt rs32) 32 1, many (rsE 77 74 cols rs32)]) H_
                  clear H_
                  refine ql (.bool true) (by kernel_rfl) (by kernel_rfl) ?_
                  refine wpList_nil ?_
                  refine x_then ?_
                  refine wp_seq ?_
                  refine wp_region_lit ?_
                  refine ql (.slice (some ad22) l.length cl) (by kernel_rfl) (by kernel_rfl) ?_
                  refine ql (.int .i64 k) (by kernel_rfl) (by kernel_rfl) ?_
                  refine ql (.pointer (some (ad22.add (k.toNat * 2)))) (by kernel_rfl) (R_indexA (k := .i64) (p := ad22) (n := l.length) (c := cl) (i := k) (by kernel_rfl) (by kernel_rfl) Tryd.underlying44 (by kernel_rfl) (by omega) (by omega)) ?_
                  refine ql (.pointer (some (ad22.add (k.toNat * 2)))) (by kernel_rfl) (by kernel_rfl) ?_
                  refine ql (.int .i64 ((gx l k).1)) (by kernel_rfl) (R_load (p := ad22.add (k.toNat * 2)) (by kernel_rfl) (by kernel_rfl) (by kernel_rfl) (HS.old0 (Rd.elem0 (f := actD) (fun _ => rfl) hra (gx_eq (by omega) (by omega)) rfl))) ?_
                  refine ql (.bool true) (by kernel_rfl) (R_bool (p := ((gx l k).1) ≥ (0 : Int)) (by kernel_rfl) (by omega)) ?_
                  refine ql (.bool true) (by kernel_rfl) (by kernel_rfl) ?_
                  refine ql (.slice (some ad22) l.length cl) (by kernel_rfl) (by kernel_rfl) ?_
                  refine ql (.int .i64 k) (by kernel_rfl) (by kernel_rfl) ?_
                  refine ql (.pointer (some (ad22.add (k.toNat * 2)))) (by kernel_rfl) (R_indexA (k := .i64) (p := ad22) (n := l.length) (c := cl) (i := k) (by kernel_rfl) (by kernel_rfl) Tryd.underlying44 (by kernel_rfl) (by omega) (by omega)) ?_
                  refine ql (.pointer (some (ad22.add (k.toNat * 2)))) (by kernel_rfl) (by kernel_rfl) ?_
                  refine ql (.int .i64 ((gx l k).1)) (by kernel_rfl) (R_load (p := ad22.add (k.toNat * 2)) (by kernel_rfl) (by kernel_rfl) (by kernel_rfl) (HS.old0 (Rd.elem0 (f := actD) (fun _ => rfl) hra (gx_eq (by omega) (by omega)) rfl))) ?_
                  refine ql (.int .i64 rows) (by kernel_rfl) (by kernel_rfl) ?_
                  refine ql (.bool true) (by kernel_rfl) (R_bool (p := ((gx l k).1) < rows) (by kernel_rfl) (by omega)) ?_
                  refine ql (.bool true) (by kernel_rfl) (by kernel_rfl) ?_
                  refine ql (.bool true) (by kernel_rfl) (by kernel_rfl) ?_
                  refine ql (.slice (some ad22) l.length cl) (by kernel_rfl) (by kernel_rfl) ?_
                  refine ql (.int .i64 k) (by kernel_rfl) (by kernel_rfl) ?_
                  refine ql (.pointer (some (ad22.add (k.toNat * 2)))) (by kernel_rfl) (R_indexA (k := .i64) (p := ad22) (n := l.length) (c := cl) (i := k) (by kernel_rfl) (by kernel_rfl) Tryd.underlying44 (by kernel_rfl) (by omega) (by omega)) ?_
                  refine ql (.pointer (some ((ad22.add (k.toNat * 2)).add 1))) (by kernel_rfl) (by kernel_rfl) ?_
                  refine ql (.int .i64 ((gx l k).2)) (by kernel_rfl) (R_load (p := (ad22.add (k.toNat * 2)).add 1) (by kernel_rfl) (by kernel_rfl) (by kernel_rfl) (HS.old0 (Rd.elem1 (k := 1) (f := actD) (fun _ => rfl) hra (gx_eq (by omega) (by omega)) rfl))) ?_
                  refine ql (.bool true) (by kernel_rfl) (R_bool (p := ((gx l k).2) ≥ (0 : Int)) (by kernel_rfl) (by omega)) ?_
                  refine ql (.bool true) (by kernel_rfl) (by kernel_rfl) ?_
                  refine ql (.bool true) (by kernel_rfl) (by kernel_rfl) ?_
                  refine ql (.slice (some ad22) l.length cl) (by kernel_rfl) (by kernel_rfl) ?_
                  refine ql (.int .i64 k) (by kernel_rfl) (by kernel_rfl) ?_
                  refine ql (.pointer (some (ad22.add (k.toNat * 2)))) (by kernel_rfl) (R_indexA (k := .i64) (p := ad22) (n := l.length) (c := cl) (i := k) (by kernel_rfl) (by kernel_rfl) Tryd.underlying44 (by kernel_rfl) (by omega) (by omega)) ?_
                  refine ql (.pointer (some ((ad22.add (k.toNat * 2)).add 1))) (by kernel_rfl) (by kernel_rfl) ?_
                  refine ql (.int .i64 ((gx l k).2)) (by kernel_rfl) (R_load (p := (ad22.add (k.toNat * 2)).add 1) (by kernel_rfl) (by kernel_rfl) (by kernel_rfl) (HS.old0 (Rd.elem1 (k := 1) (f := actD) (fun _ => rfl) hra (gx_eq (by omega) (by omega)) rfl))) ?_
                  refine ql (.int .i64 cols) (by kernel_rfl) (by kernel_rfl) ?_
                  refine ql (.bool true) (by kernel_rfl) (R_bool (p := ((gx l k).2) < cols) (by kernel_rfl) (by omega)) ?_
                  refine ql (.bool true) (by kernel_rfl) (by kernel_rfl) ?_
                  refine ql (.bool true) (by kernel_rfl) (by kernel_rfl) ?_
                  refine wpList_nil ?_
                  refine x_then ?_
                  refine wp_seq ?_
                  refine t_start HS (fun _ => False) 23 (by kernel_rfl) rfl ?_
                  intro W35 H_ HD_
                  clear HD_
                  replace HS : St W (owns []) W35 [blk g11 [.slice (some ⟨a12, 0, none⟩) rs32.length cr13, .int .i64 cols] 87, row (some ⟨a12, 0, none⟩) rs32.length cr13 (cf cpt rs32) 32 1, many (rsE 77 74 cols rs32)] := H_
                  clear H_
                  have HV := HS
                  have HK := Kpt.refl (fun _ => False) W35
                  refine t_q (n := 22) 0 (.bool true) rfl (by kernel_rfl) (by kernel_rfl) (fun _ _ _ h => h) (fun w' hk => (by kernel_rfl)) HK ?_
                  refine t_q (n := 21) 1 (.bool true) rfl (by kernel_rfl) (by kernel_rfl) (fun _ _ _ h => h) (fun w' hk => (by kernel_rfl)) HK ?_
                  refine t_q (n := 20) 2 (.bool true) rfl (by kernel_rfl) (by kernel_rfl) (fun _ _ _ h => h) (fun w' hk => (by kernel_rfl)) HK ?_
                  refine t_q (n := 19) 3 (.bool false) rfl (by kernel_rfl) (by kernel_rfl) (fun _ _ _ h => h) (fun w' hk => (by kernel_rfl)) HK ?_
                  refine t_q (n := 18) 4 (.bool true) rfl (by kernel_rfl) (by kernel_rfl) (fun _ _ _ h => h) (fun w' hk => (by kernel_rfl)) HK ?_
                  refine t_q (n := 17) 5 (.bool true) rfl (by kernel_rfl) (by kernel_rfl) (fun _ _ _ h => h) (fun w' hk => (by kernel_rfl)) HK ?_
                  refine t_q (n := 16) 6 (.bool false) rfl (by kernel_rfl) (by kernel_rfl) (fun _ _ _ h => h) (fun w' hk => (by kernel_rfl)) HK ?_
                  refine t_q (n := 15) 7 (.bool false) rfl (by kernel_rfl) (by kernel_rfl) (fun _ _ _ h => h) (fun w' hk => (by kernel_rfl)) HK ?_
                  refine t_q (n := 14) 8 (.pointer (some ⟨g11, 0, none⟩)) rfl (by kernel_rfl) (by kernel_rfl) (fun _ _ _ h => h) (fun w' hk => (by kernel_rfl)) HK ?_
                  refine t_q (n := 13) 9 (.slice (some ad22) l.length cl) rfl (by kernel_rfl) (by kernel_rfl) (fun _ _ _ h => h) (fun w' hk => (by kernel_rfl)) HK ?_
                  refine t_q (n := 12) 10 (.int .i64 k) rfl (by kernel_rfl) (by kernel_rfl) (fun _ _ _ h => h) (fun w' hk => (by kernel_rfl)) HK ?_
                  refine t_q (n := 11) 11 (.pointer (some (ad22.add (k.toNat * 2)))) rfl (by kernel_rfl) (by kernel_rfl) (fun _ _ _ h => h) (fun w' hk => (R_indexA (k := .i64) (p := ad22) (n := l.length) (c := cl) (i := k) (by kernel_rfl) (by kernel_rfl) Tryd.underlying44 (by kernel_rfl) (by omega) (by omega))) HK ?_
                  refine t_q (n := 10) 12 (.pointer (some (ad22.add (k.toNat * 2)))) rfl (by kernel_rfl) (by kernel_rfl) (fun _ _ _ h => h) (fun w' hk => (by kernel_rfl)) HK ?_
                  refine t_q (n := 9) 13 (.int .i64 ((gx l k).1)) rfl (by kernel_rfl) (by kernel_rfl) (fun _ _ _ h => h) (fun w' hk => (R_load (p := ad22.add (k.toNat * 2)) (by kernel_rfl) (by kernel_rfl) (by kernel_rfl) (hk.cell (HV.old0 (Rd.elem0 (f := actD) (fun _ => rfl) hra (gx_eq (by omega) (by omega)) rfl))))) HK ?_
                  refine t_q (n := 8) 14 (.slice (some ad22) l.length cl) rfl (by kernel_rfl) (by kernel_rfl) (fun _ _ _ h => h) (fun w' hk => (by kernel_rfl)) HK ?_
                  refine t_q (n := 7) 15 (.int .i64 k) rfl (by kernel_rfl) (by kernel_rfl) (fun _ _ _ h => h) (fun w' hk => (by kernel_rfl)) HK ?_
                  refine t_q (n := 6) 16 (.pointer (some (ad22.add (k.toNat * 2)))) rfl (by kernel_rfl) (by kernel_rfl) (fun _ _ _ h => h) (fun w' hk => (R_indexA (k := .i64) (p := ad22) (n := l.length) (c := cl) (i := k) (by kernel_rfl) (by kernel_rfl) Tryd.underlying44 (by kernel_rfl) (by omega) (by omega))) HK ?_
                  refine t_q (n := 5) 17 (.pointer (some ((ad22.add (k.toNat * 2)).add 1))) rfl (by kernel_rfl) (by kernel_rfl) (fun _ _ _ h => h) (fun w' hk => (by kernel_rfl)) HK ?_
                  refine t_q (n := 4) 18 (.int .i64 ((gx l k).2)) rfl (by kernel_rfl) (by kernel_rfl) (fun _ _ _ h => h) (fun w' hk => (R_load (p := (ad22.add (k.toNat * 2)).add 1) (by kernel_rfl) (by kernel_rfl) (by kernel_rfl) (hk.cell (HV.old0 (Rd.elem1 (k := 1) (f := actD) (fun _ => rfl) hra (gx_eq (by omega) (by omega)) rfl))))) HK ?_
                  refine t_q (n := 3) 20 (.bool true) rfl (by kernel_rfl) (by kernel_rfl) (fun _ _ _ h => h) (fun w' hk => (by kernel_rfl)) HK ?_
                  refine t_c (n := 2) 19 (f := 28) (args := #[.pointer (some ⟨g11, 0, none⟩), .int .i64 ((gx l k).1), .int .i64 ((gx l k).2)]) rfl (by kernel_rfl) (by kernel_rfl) (R_call #[.pointer (some ⟨g11, 0, none⟩), .int .i64 ((gx l k).1), .int .i64 ((gx l k).2)] Tryd.func28 (by kernel_rfl) (by kernel_rfl) (by kernel_rfl)) ?_
                  refine (mhas g11 cr13 (some ⟨a12, 0, none⟩) cols rs32 (addM Ls_ cols (gx l k).1 (gx l k).2) ((gx l k).1) ((gx l k).2) _ (Mr.of HS (i := 0) (j := 1) (m := 2) rfl rfl rfl) hR33 (by omega) (by omega)).mono ?_
                  rintro e W36 ⟨rfl, H_⟩
                  rw [decide_eq_true (addM_has hin.1 hin.2.1 hin.2.2.1 hin.2.2.2).1]
                  refine ⟨_, rfl, HK.tr H_.kept.nil, ?_⟩
                  replace HK := HK.tr H_.kept.nil
                  replace HS : St W (owns []) W36 [blk g11 [.slice (some ⟨a12, 0, none⟩) rs32.length cr13, .int .i64 cols] 87, row (some ⟨a12, 0, none⟩) rs32.length cr13 (cf cpt rs32) 32 1, many (rsE 77 74 cols rs32)] := HS.join (F := []) (G := []) H_
                  clear H_
                  refine t_q (n := 1) 21 (.bool false) rfl (by kernel_rfl) (by kernel_rfl) (fun _ _ _ h => h) (fun w' hk => (by kernel_rfl)) HK ?_
                  refine t_q (n := 0) 22 (.bool false) rfl (by kernel_rfl) (by kernel_rfl) (fun _ _ _ h => h) (fun w' hk => (by kernel_rfl)) HK ?_
                  refine t_done (by kernel_rfl) ?_
                  clear HV HK
                  refine x_then ?_
                  refine wp_cond_false (by kernel_rfl) ?_
                  refine wp_skip ?_
                  refine x_inb ?_
                  refine x_then ?_
                  refine wp_region_lit ?_
                  refine ql (.int .i64 k) (by kernel_rfl) (by kernel_rfl) ?_
                  refine ql (.int .i64 (k + 1)) (by kernel_rfl) (R_int (by kernel_rfl) (w64 (by omega))) ?_
                  refine ql (.int .i64 (k + 1)) (by kernel_rfl) (by kernel_rfl) ?_
                  refine wpList_nil ?_
                  refine x_then ?_
                  exact ⟨l.length - (k + 1).toNat, by omega, (fun k_ : Nat => List.getD ((.int .i64 rows) :: (.int .i64 cols) :: (.slice (some ad22) l.length cl) :: undef :: undef :: undef :: ((J17 6)) :: (.pointer (some ⟨g11, 0, none⟩)) :: (.int .i64 0) :: (.int .i64 (k + 1)) :: (.bool false) :: (.bool true) :: (.bool true) :: undef :: undef :: undef :: undef :: undef :: undef :: (.int .i64 rows) :: (.bool false) :: (.bool false) :: (.int .i64 cols) :: (.bool false) :: (.bool false) :: (.bool false) :: (.int .i64 rows) :: (.bool false) :: (.bool false) :: (.bool false) :: (.int .i64 cols) :: (.bool false) :: (.bool false) :: (.bool false) :: (.slice (some ad22) l.length cl) :: (.int .i64 (l.length : Int)) :: (.bool false) :: (.bool false) :: undef :: (.tuple #[.pointer (some ⟨g11, 0, none⟩), .int .i64 0]) :: (.int .i64 rows) :: (.int .i64 cols) :: (.tuple #[.pointer (some ⟨g11, 0, none⟩), .int .i64 0]) :: (.pointer (some ⟨g11, 0, none⟩)) :: (.int .i64 0) :: (.pointer (some ⟨g11, 0, none⟩)) :: (.bool false) :: (.bool false) :: (.int .i64 0) :: (.bool false) :: (.bool false) :: (.int .i64 k) :: (.slice (some ad22) l.length cl) :: (.int .i64 (l.length : Int)) :: (.bool true) :: (.int .i64 k) :: (.int .i64 (k + 1)) :: (.pointer (some ⟨g11, 0, none⟩)) :: (.slice (some ad22) l.length cl) :: (.int .i64 k) :: (.pointer (some (ad22.add (k.toNat * 2)))) :: (.pointer (some (ad22.add (k.toNat * 2)))) :: (.int .i64 ((gx l k).1)) :: (.slice (some ad22) l.length cl) :: (.int .i64 k) :: (.pointer (some (ad22.add (k.toNat * 2)))) :: (.pointer (some ((ad22.add (k.toNat * 2)).add 1))) :: (.int .i64 ((gx l k).2)) :: (.bool false) :: (.pointer (some ⟨g11, 0, none⟩)) :: (.slice (some ad22) l.length cl) :: (.int .i64 k) :: (.pointer (some (ad22.add (k.toNat * 2)))) :: (.pointer (some (ad22.add (k.toNat * 2)))) :: (.int .i64 ((gx l k).1)) :: (.slice (some ad22) l.length cl) :: (.int .i64 k) :: (.pointer (some (ad22.add (k.toNat * 2)))) :: (.pointer (some ((ad22.add (k.toNat * 2)).add 1))) :: (.int .i64 ((gx l k).2)) :: (.bool true) :: (.slice (some ad22) l.length cl) :: (.int .i64 k) :: (.pointer (some (ad22.add (k.toNat * 2)))) :: (.pointer (some (ad22.add (k.toNat * 2)))) :: (.int .i64 ((gx l k).1)) :: (.bool true) :: (.bool true) :: (.slice (some ad22) l.length cl) :: (.int .i64 k) :: (.pointer (some (ad22.add (k.toNat * 2)))) :: (.pointer (some (ad22.add (k.toNat * 2)))) :: (.int .i64 ((gx l k).1)) :: (.int .i64 rows) :: (.bool true) :: (.bool true) :: (.bool true) :: (.slice (some ad22) l.length cl) :: (.int .i64 k) :: (.pointer (some (ad22.add (k.toNat * 2)))) :: (.pointer (some ((ad22.add (k.toNat * 2)).add 1))) :: (.int .i64 ((gx l k).2)) :: (.bool true) :: (.bool true) :: (.bool true) :: (.slice (some ad22) l.length cl) :: (.int .i64 k) :: (.pointer (some (ad22.add (k.toNat * 2)))) :: (.pointer (some ((ad22.add (k.toNat * 2)).add 1))) :: (.int .i64 ((gx l k).2)) :: (.int .i64 cols) :: (.bool true) :: (.bool true) :: (.bool true) :: (.bool true) :: (.bool true) :: (.bool false) :: (.bool true) :: (.bool true) :: (.bool false) :: (.bool false) :: (.pointer (some ⟨g11, 0, none⟩)) :: (.slice (some ad22) l.length cl) :: (.int .i64 k) :: (.pointer (some (ad22.add (k.toNat * 2)))) :: (.pointer (some (ad22.add (k.toNat * 2)))) :: (.int .i64 ((gx l k).1)) :: (.slice (some ad22) l.length cl) :: (.int .i64 k) :: (.pointer (some (ad22.add (k.toNat * 2)))) :: (.pointer (some ((ad22.add (k.toNat * 2)).add 1))) :: (.int .i64 ((gx l k).2)) :: (.bool true) :: (.bool true) :: (.bool false) :: (.bool false) :: undef :: undef :: undef :: undef :: undef :: undef :: undef :: undef :: undef :: undef :: undef :: undef :: undef :: undef :: undef :: undef :: undef :: undef :: undef :: undef :: undef :: undef :: undef :: undef :: undef :: undef :: undef :: undef :: undef :: undef :: undef :: undef :: undef :: undef :: undef :: undef :: undef :: undef :: undef :: undef :: undef :: undef :: undef :: undef :: undef :: undef :: undef :: undef :: undef :: []) k_ undef), k + 1, rs32, (addM Ls_ cols (gx l k).1 (gx l k).2), congrArg Fr (by kernel_rfl), rfl, by omega, by omega, hR33, (by omega), HS⟩
              · skip
                refine (mhas g11 cr13 (some ⟨a12, 0, none⟩) cols rs_ Ls_ ((gx l k).1) ((gx l k).2) _ (Mr.of HS (i := 0) (j := 1) (m := 2) rfl rfl rfl) hRk (by omega) (by omega)).mono ?_
                rintro e W37 ⟨rfl, H_⟩
                rw [decide_eq_false (hRk.not_ hin)]
                refine ⟨_, rfl, ?_⟩
                replace HS : St W (owns []) W37 [blk g11 [.slice (some ⟨a12, 0, none⟩) rs_.length cr13, .int .i64 cols] 87, row (some ⟨a12, 0, none⟩) rs_.length cr13 (cf cpt rs_) 32 1, many (rsE 77 74 cols rs_)] := HS.join (F := []) (G := []) H_
                clear H_
                refine ql (.bool false) (by kernel_rfl) (by kernel_rfl) ?_
                refine wpList_nil ?_
                refine x_then ?_
                refine wp_seq ?_
                refine rg_still HS 11 (by kernel_rfl) (by kernel_rfl) ?_
                intro W38 H_ HK_
                simp only [List.take_succ_cons, List.take_zero, List.drop_succ_cons, List.drop_zero]
                replace HS : St W (owns []) W38 [blk g11 [.slice (some ⟨a12, 0, none⟩) rs_.length cr13, .int .i64 cols] 87, row (some ⟨a12, 0, none⟩) rs_.length cr13 (cf cpt rs_) 32 1, many (rsE 77 74 cols rs_)] := H_
                clear H_
                clear HK_
                refine qs (.pointer (some ⟨g11, 0, none⟩)) (by kernel_rfl) (by kernel_rfl) ?_
                refine qs (.slice (some ad22) l.length cl) (by kernel_rfl) (by kernel_rfl) ?_
                refine qs (.int .i64 k) (by kernel_rfl) (by kernel_rfl) ?_
                refine qs (.pointer (some (ad22.add (k.toNat * 2)))) (by kernel_rfl) (R_indexA (k := .i64) (p := ad22) (n := l.length) (c := cl) (i := k) (by kernel_rfl) (by kernel_rfl) Tryd.underlying44 (by kernel_rfl) (by omega) (by omega)) ?_
                refine qs (.pointer (some (ad22.add (k.toNat * 2)))) (by kernel_rfl) (by kernel_rfl) ?_
                refine qs (.int .i64 ((gx l k).1)) (by kernel_rfl) (R_load (p := ad22.add (k.toNat * 2)) (by kernel_rfl) (by kernel_rfl) (by kernel_rfl) (HS.old0 (Rd.elem0 (f := actD) (fun _ => rfl) hra (gx_eq (by omega) (by omega)) rfl))) ?_
                refine qs (.slice (some ad22) l.length cl) (by kernel_rfl) (by kernel_rfl) ?_
                refine qs (.int .i64 k) (by kernel_rfl) (by kernel_rfl) ?_
                refine qs (.pointer (some (ad22.add (k.toNat * 2)))) (by kernel_rfl) (R_indexA (k := .i64) (p := ad22) (n := l.length) (c := cl) (i := k) (by kernel_rfl) (by kernel_rfl) Tryd.underlying44 (by kernel_rfl) (by omega) (by omega)) ?_
                refine qs (.pointer (some ((ad22.add (k.toNat * 2)).add 1))) (by kernel_rfl) (by kernel_rfl) ?_
                refine qs (.int .i64 ((gx l k).2)) (by kernel_rfl) (R_load (p := (ad22.add (k.toNat * 2)).add 1) (by kernel_rfl) (by kernel_rfl) (by kernel_rfl) (HS.old0 (Rd.elem1 (k := 1) (f := actD) (fun _ => rfl) hra (gx_eq (by omega) (by omega)) rfl))) ?_
                refine wpStill_nil ?_
                refine qc (f := 36) (args := #[.pointer (some ⟨g11, 0, none⟩), .int .i64 ((gx l k).1), .int .i64 ((gx l k).2)]) (by kernel_rfl) (R_call #[.pointer (some ⟨g11, 0, none⟩), .int .i64 ((gx l k).1), .int .i64 ((gx l k).2)] Tryd.func36 (by kernel_rfl) (by kernel_rfl) (by kernel_rfl)) ?_
                refine (madd g11 cr13 (some ⟨a12, 0, none⟩) cols rs_ Ls_ (gx l k).1 (gx l k).2 _ _ (St.focus (F := [blk g11 [.slice (some ⟨a12, 0, none⟩) rs_.length cr13, .int .i64 cols] 87, row (some ⟨a12, 0, none⟩) rs_.length cr13 (cf cpt rs_) 32 1, many (rsE 77 74 cols rs_)]) HS) hRk (by omega) (by omega)).mono ?_
                rintro e W41 ⟨rs39, rfl, H_, hR40, hlrs39⟩
                rw [(addM_out hin).2]
                refine ⟨_, rfl, ?_⟩
                replace HS : St W (owns []) W41 [blk g11 [.slice (some ⟨a12, 0, none⟩) rs39.length cr13, .int .i64 cols] 87, row (some ⟨a12, 0, none⟩) rs39.length cr13 (cf cpt rs39) 32 1, many (rsE 77 74 cols rs39)] := HS.join (F := [blk g11 [.slice (some ⟨a12, 0, none⟩) rs_.length cr13, .int .i64 cols] 87, row (some ⟨a12, 0, none⟩) rs_.length cr13 (cf cpt rs_) 32 1, many (rsE 77 74 cols rs_)]) (G := [blk g11 [.slice (some ⟨a12, 0, none⟩) rs39.length cr13, .int .i64 cols] 87, row (some ⟨a12, 0, none⟩) rs39.length cr13 (cf cpt rs39) 32 1, many (rsE 77 74 cols rs39)]) H_
                clear H_
                refine ql (.bool false) (by kernel_rfl) (by kernel_rfl) ?_
                refine wpList_nil ?_
                refine x_then ?_
                refine wp_seq ?_
                refine wp_region_lit ?_
                refine ql (.slice (some ad22) l.length cl) (by kernel_rfl) (by kernel_rfl) ?_
                refine ql (.int .i64 k) (by kernel_rfl) (by kernel_rfl) ?_
                refine ql (.pointer (some (ad22.add (k.toNat * 2)))) (by kernel_rfl) (R_indexA (k := .i64) (p := ad22) (n := l.length) (c := cl) (i := k) (by kernel_rfl) (by kernel_rfl) Tryd.underlying44 (by kernel_rfl) (by omega) (by omega)) ?_
                refine ql (.pointer (some (ad22.add (k.toNat * 2)))) (by kernel_rfl) (by kernel_rfl) ?_
                refine ql (.int .i64 ((gx l k).1)) (by kernel_rfl) (R_load (p := ad22.add (k.toNat * 2)) (by kernel_rfl) (by kernel_rfl) (by kernel_rfl) (HS.old0 (Rd.elem0 (f := actD) (fun _ => rfl) hra (gx_eq (by omega) (by omega)) rfl))) ?_
                by_cases hc42 : ((gx l k).1) ≥ (0 : Int)
                · skip
                  refine ql (.bool true) (by kernel_rfl) (R_bool (p := ((gx l k).1) ≥ (0 : Int)) (by kernel_rfl) (hc42)) ?_
                  refine ql (.bool true) (by kernel_rfl) (by kernel_rfl) ?_
                  refine ql (.slice (some ad22) l.length cl) (by kernel_rfl) (by kernel_rfl) ?_
                  refine ql (.int .i64 k) (by kernel_rfl) (by kernel_rfl) ?_
                  refine ql (.pointer (some (ad22.add (k.toNat * 2)))) (by kernel_rfl) (R_indexA (k := .i64) (p := ad22) (n := l.length) (c := cl) (i := k) (by kernel_rfl) (by kernel_rfl) Tryd.underlying44 (by kernel_rfl) (by omega) (by omega)) ?_
                  refine ql (.pointer (some (ad22.add (k.toNat * 2)))) (by kernel_rfl) (by kernel_rfl) ?_
                  refine ql (.int .i64 ((gx l k).1)) (by kernel_rfl) (R_load (p := ad22.add (k.toNat * 2)) (by kernel_rfl) (by kernel_rfl) (by kernel_rfl) (HS.old0 (Rd.elem0 (f := actD) (fun _ => rfl) hra (gx_eq (by omega) (by omega)) rfl))) ?_
                  refine ql (.int .i64 rows) (by kernel_rfl) (by kernel_rfl) ?_
                  by_cases hc43 : ((gx l k).1) < rows
                  · skip
                    refine ql (.bool true) (by kernel_rfl) (R_bool (p := ((gx l k).1) < rows) (by kernel_rfl) (hc43)) ?_
                    refine ql (.bool true) (by kernel_rfl) (by kernel_rfl) ?_
                    refine ql (.bool true) (by kernel_rfl) (by kernel_rfl) ?_
                    refine ql (.slice (some ad22) l.length cl) (by kernel_rfl) (by kernel_rfl) ?_
                    refine ql (.int .i64 k) (by kernel_rfl) (by kernel_rfl) ?_
                    refine ql (.pointer (some (ad22.add (k.toNat * 2)))) (by kernel_rfl) (R_indexA (k := .i64) (p := ad22) (n := l.length) (c := cl) (i := k) (by kernel_rfl) (by kernel_rfl) Tryd.underlying44 (by kernel_rfl) (by omega) (by omega)) ?_
                    refine ql (.pointer (some ((ad22.add (k.toNat * 2)).add 1))) (by kernel_rfl) (by kernel_rfl) ?_
                    refine ql (.int .i64 ((gx l k).2)) (by kernel_rfl) (R_load (p := (ad22.add (k.toNat * 2)).add 1) (by kernel_rfl) (by kernel_rfl) (by kernel_rfl) (HS.old0 (Rd.elem1 (k := 1) (f := actD) (fun _ => rfl) hra (gx_eq (by omega) (by omega)) rfl))) ?_
                    by_cases hc44 : ((gx l k).2) ≥ (0 : Int)
                    · skip
                      refine ql (.bool true) (by kernel_rfl) (R_bool (p := ((gx l k).2) ≥ (0 : Int)) (by kernel_rfl) (hc44)) ?_
                      refine ql (.bool true) (by kernel_rfl) (by kernel_rfl) ?_
                      refine ql (.bool true) (by kernel_rfl) (by kernel_rfl) ?_
                      refine ql (.slice (some ad22) l.length cl) (by kernel_rfl) (by kernel_rfl) ?_
                      refine ql (.int .i64 k) (by kernel_rfl) (by kernel_rfl) ?_
                      refine ql (.pointer (some (ad22.add (k.toNat * 2)))) (by kernel_rfl) (R_indexA (k := .i64) (p := ad22) (n := l.length) (c := cl) (i := k) (by kernel_rfl) (by kernel_rfl) Tryd.underlying44 (by kernel_rfl) (by omega) (by omega)) ?_
                      refine ql (.pointer (some ((ad22.add (k.toNat * 2)).add 1))) (by kernel_rfl) (by kernel_rfl) ?_
                      refine ql (.int .i64 ((gx l k).2)) (by kernel_rfl) (R_load (p := (ad22.add (k.toNat * 2)).add 1) (by kernel_rfl) (by kernel_rfl) (by kernel_rfl) (HS.old0 (Rd.elem1 (k := 1) (f := actD) (fun _ => rfl) hra (gx_eq (by omega) (by omega)) rfl))) ?_
                      refine ql (.int .i64 cols) (by kernel_rfl) (by kernel_rfl) ?_
                      by_cases hc45 : ((gx l k).2) < cols
                      · skip
                        refine ql (.bool true) (by kernel_rfl) (R_bool (p := ((gx l k).2) < cols) (by kernel_rfl) (hc45)) ?_
                        refine ql (.bool true) (by kernel_rfl) (by kernel_rfl) ?_
                        refine ql (.bool true) (by kernel_rfl) (by kernel_rfl) ?_
                        refine wpList_nil ?_
                        refine x_then ?_
                        refine wp_seq ?_
                        refine t_start HS (fun _ => False) 23 (by kernel_rfl) rfl ?_
                        intro W46 H_ HD_
                        clear HD_
                        replace HS : St W (owns []) W46 [blk g11 [.slice (some ⟨a12, 0, none⟩) rs39.length cr13, .int .i64 cols] 87, row (some ⟨a12, 0, none⟩) rs39.length cr13 (cf cpt rs39) 32 1, many (rsE 77 74 cols rs39)] := H_
                        clear H_
                        have HV := HS
                        have HK := Kpt.refl (fun _ => False) W46
                        refine t_q (n := 22) 0 (.bool false) rfl (by kernel_rfl) (by kernel_rfl) (fun _ _ _ h => h) (fun w' hk => (by kernel_rfl)) HK ?_
                        refine t_q (n := 21) 1 (.bool true) rfl (by kernel_rfl) (by kernel_rfl) (fun _ _ _ h => h) (fun w' hk => (by kernel_rfl)) HK ?_
                        refine t_q (n := 20) 2 (.bool true) rfl (by kernel_rfl) (by kernel_rfl) (fun _ _ _ h => h) (fun w' hk => (by kernel_rfl)) HK ?_
                        refine t_q (n := 19) 3 (.bool false) rfl (by kernel_rfl) (by kernel_rfl) (fun _ _ _ h => h) (fun w' hk => (by kernel_rfl)) HK ?_
                        refine t_q (n := 18) 4 (.bool true) rfl (by kernel_rfl) (by kernel_rfl) (fun _ _ _ h => h) (fun w' hk => (by kernel_rfl)) HK ?_
                        refine t_q (n := 17) 5 (.bool true) rfl (by kernel_rfl) (by kernel_rfl) (fun _ _ _ h => h) (fun w' hk => (by kernel_rfl)) HK ?_
                        refine t_q (n := 16) 6 (.bool true) rfl (by kernel_rfl) (by kernel_rfl) (fun _ _ _ h => h) (fun w' hk => (by kernel_rfl)) HK ?_
                        refine t_q (n := 15) 7 (.bool true) rfl (by kernel_rfl) (by kernel_rfl) (fun _ _ _ h => h) (fun w' hk => (by kernel_rfl)) HK ?_
                        refine t_qn (n := 14) 8 rfl (by kernel_rfl) (by kernel_rfl) (fun _ _ _ h => h) HK ?_
                        refine t_qn (n := 13) 9 rfl (by kernel_rfl) (by kernel_rfl) (fun _ _ _ h => h) HK ?_
                        refine t_qn (n := 12) 10 rfl (by kernel_rfl) (by kernel_rfl) (fun _ _ _ h => h) HK ?_
                        refine t_qn (n := 11) 11 rfl (by kernel_rfl) (by kernel_rfl) (fun _ _ _ h => h) HK ?_
                        refine t_qn (n := 10) 12 rfl (by kernel_rfl) (by kernel_rfl) (fun _ _ _ h => h) HK ?_
                        refine t_qn (n := 9) 13 rfl (by kernel_rfl) (by kernel_rfl) (fun _ _ _ h => h) HK ?_
                        refine t_qn (n := 8) 14 rfl (by kernel_rfl) (by kernel_rfl) (fun _ _ _ h => h) HK ?_
                        refine t_qn (n := 7) 15 rfl (by kernel_rfl) (by kernel_rfl) (fun _ _ _ h => h) HK ?_
                        refine t_qn (n := 6) 16 rfl (by kernel_rfl) (by kernel_rfl) (fun _ _ _ h => h) HK ?_
                        refine t_qn (n := 5) 17 rfl (by kernel_rfl) (by kernel_rfl) (fun _ _ _ h => h) HK ?_
                        refine t_qn (n := 4) 18 rfl (by kernel_rfl) (by kernel_rfl) (fun _ _ _ h => h) HK ?_
                        refine t_qn (n := 3) 19 rfl (by kernel_rfl) (by kernel_rfl) (fun _ _ _ h => h) HK ?_
                        refine t_qn (n := 2) 20 rfl (by kernel_rfl) (by kernel_rfl) (fun _ _ _ h => h) HK ?_
                        refine t_qn (n := 1) 21 rfl (by kernel_rfl) (by kernel_rfl) (fun _ _ _ h => h) HK ?_
                        refine t_q (n := 0) 22 (.bool true) rfl (by kernel_rfl) (by kernel_rfl) (fun _ _ _ h => h) (fun w' hk => (by kernel_rfl)) HK ?_
                        refine t_done (by kernel_rfl) ?_
                        clear HV HK
                        refine x_then ?_
                        refine wp_cond_true (by kernel_rfl) ?_
                        refine wp_seq ?_
                        refine wp_region_lit ?_
                        refine ql (.bool false) (by kernel_rfl) (by kernel_rfl) ?_
                        refine wpList_nil ?_
                        refine x_then ?_
                        refine wp_ret ?_
                        refine x_inbR ?_
                        refine x_thenR ?_
                        refine x_thenR ?_
                        refine x_inbR ?_
                        refine x_thenR ?_
                        refine ret_ (.bool false) (by kernel_rfl) ?_
                        exfalso; omega
                      · skip
                        refine ql (.bool false) (by kernel_rfl) (R_nbool (p := ((gx l k).2) < cols) (by kernel_rfl) (hc45)) ?_
                        refine ql (.bool false) (by kernel_rfl) (by kernel_rfl) ?_
                        refine ql (.bool false) (by kernel_rfl) (by kernel_rfl) ?_
                        refine wpList_nil ?_
                        refine x_then ?_
                        refine wp_seq ?_
                        refine t_start HS (fun _ => False) 23 (by kernel_rfl) rfl ?_
                        intro W47 H_ HD_
                        clear HD_
                        replace HS : St W (owns []) W47 [blk g11 [.slice (some ⟨a12, 0, none⟩) rs39.length cr13, .int .i64 cols] 87, row (some ⟨a12, 0, none⟩) rs39.length cr13 (cf cpt rs39) 32 1, many (rsE 77 74 cols rs39)] := H_
                        clear H_
                        have HV := HS
                        have HK := Kpt.refl (fun _ => False) W47
                        refine t_q (n := 22) 0 (.bool false) rfl (by kernel_rfl) (by kernel_rfl) (fun _ _ _ h => h) (fun w' hk => (by kernel_rfl)) HK ?_
                        refine t_q (n := 21) 1 (.bool false) rfl (by kernel_rfl) (by kernel_rfl) (fun _ _ _ h => h) (fun w' hk => (by kernel_rfl)) HK ?_
                        refine t_q (n := 20) 2 (.bool false) rfl (by kernel_rfl) (by kernel_rfl) (fun _ _ _ h => h) (fun w' hk => (by kernel_rfl)) HK ?_
                        refine t_qn (n := 19) 3 rfl (by kernel_rfl) (by kernel_rfl) (fun _ _ _ h => h) HK ?_
                        refine t_qn (n := 18) 4 rfl (by kernel_rfl) (by kernel_rfl) (fun _ _ _ h => h) HK ?_
                        refine t_q (n := 17) 5 (.bool false) rfl (by kernel_rfl) (by kernel_rfl) (fun _ _ _ h => h) (fun w' hk => (by kernel_rfl)) HK ?_
                        refine t_q (n := 16) 6 (.bool false) rfl (by kernel_rfl) (by kernel_rfl) (fun _ _ _ h => h) (fun w' hk => (by kernel_rfl)) HK ?_
                        refine t_q (n := 15) 7 (.bool false) rfl (by kernel_rfl) (by kernel_rfl) (fun _ _ _ h => h) (fun w' hk => (by kernel_rfl)) HK ?_
                        refine t_q (n := 14) 8 (.pointer (some ⟨g11, 0, none⟩)) rfl (by kernel_rfl) (by kernel_rfl) (fun _ _ _ h => h) (fun w' hk => (by kernel_rfl)) HK ?_
                        refine t_q (n := 13) 9 (.slice (some ad22) l.length cl) rfl (by kernel_rfl) (by kernel_rfl) (fun _ _ _ h => h) (fun w' hk => (by kernel_rfl)) HK ?_
                        refine t_q (n := 12) 10 (.int .i64 k) rfl (by kernel_rfl) (by kernel_rfl) (fun _ _ _ h => h) (fun w' hk => (by kernel_rfl)) HK ?_
                        refine t_q (n := 11) 11 (.pointer (some (ad22.add (k.toNat * 2)))) rfl (by kernel_rfl) (by kernel_rfl) (fun _ _ _ h => h) (fun w' hk => (R_indexA (k := .i64) (p := ad22) (n := l.length) (c := cl) (i := k) (by kernel_rfl) (by kernel_rfl) Tryd.underlying44 (by kernel_rfl) (by omega) (by omega))) HK ?_
                        refine t_q (n := 10) 12 (.pointer (some (ad22.add (k.toNat * 2)))) rfl (by kernel_rfl) (by kernel_rfl) (fun _ _ _ h => h) (fun w' hk => (by kernel_rfl)) HK ?_
                        refine t_q (n := 9) 13 (.int .i64 ((gx l k).1)) rfl (by kernel_rfl) (by kernel_rfl) (fun _ _ _ h => h) (fun w' hk => (R_load (p := ad22.add (k.toNat * 2)) (by kernel_rfl) (by kernel_rfl) (by kernel_rfl) (hk.cell (HV.old0 (Rd.elem0 (f := actD) (fun _ => rfl) hra (gx_eq (by omega) (by omega)) rfl))))) HK ?_
                        refine t_q (n := 8) 14 (.slice (some ad22) l.length cl) rfl (by kernel_rfl) (by kernel_rfl) (fun _ _ _ h => h) (fun w' hk => (by kernel_rfl)) HK ?_
                        refine t_q (n := 7) 15 (.int .i64 k) rfl (by kernel_rfl) (by kernel_rfl) (fun _ _ _ h => h) (fun w' hk => (by kernel_rfl)) HK ?_
                        refine t_q (n := 6) 16 (.pointer (some (ad22.add (k.toNat * 2)))) rfl (by kernel_rfl) (by kernel_rfl) (fun _ _ _ h => h) (fun w' hk => (R_indexA (k := .i64) (p := ad22) (n := l.length) (c := cl) (i := k) (by kernel_rfl) (by kernel_rfl) Tryd.underlying44 (by kernel_rfl) (by omega) (by omega))) HK ?_
                        refine t_q (n := 5) 17 (.pointer (some ((ad22.add (k.toNat * 2)).add 1))) rfl (by kernel_rfl) (by kernel_rfl) (fun _ _ _ h => h) (fun w' hk => (by kernel_rfl)) HK ?_
                        refine t_q (n := 4) 18 (.int .i64 ((gx l k).2)) rfl (by kernel_rfl) (by kernel_rfl) (fun _ _ _ h => h) (fun w' hk => (R_load (p := (ad22.add (k.toNat * 2)).add 1) (by kernel_rfl) (by kernel_rfl) (by kernel_rfl) (hk.cell (HV.old0 (Rd.elem1 (k := 1) (f := actD) (fun _ => rfl) hra (gx_eq (by omega) (by omega)) rfl))))) HK ?_
                        refine t_q (n := 3) 20 (.bool false) rfl (by kernel_rfl) (by kernel_rfl) (fun _ _ _ h => h) (fun w' hk => (by kernel_rfl)) HK ?_
                        refine t_c (n := 2) 19 (f := 28) (args := #[.pointer (some ⟨g11, 0, none⟩), .int .i64 ((gx l k).1), .int .i64 ((gx l k).2)]) rfl (by kernel_rfl) (by kernel_rfl) (R_call #[.pointer (some ⟨g11, 0, none⟩), .int .i64 ((gx l k).1), .int .i64 ((gx l k).2)] Tryd.func28 (by kernel_rfl) (by kernel_rfl) (by kernel_rfl)) ?_
                        refine (mhas g11 cr13 (some ⟨a12, 0, none⟩) cols rs39 (addM Ls_ cols (gx l k).1 (gx l k).2) ((gx l k).1) ((gx l k).2) _ (Mr.of HS (i := 0) (j := 1) (m := 2) rfl rfl rfl) hR40 (by omega) (by omega)).mono ?_
                        rintro e W48 ⟨rfl, H_⟩
                        rw [decide_eq_false (by rw [(addM_out hin).1]; exact hRk.not_ hin)]
                        refine ⟨_, rfl, HK.tr H_.kept.nil, ?_⟩
                        replace HK := HK.tr H_.kept.nil
                        replace HS : St W (owns []) W48 [blk g11 [.slice (some ⟨a12, 0, none⟩) rs39.length cr13, .int .i64 cols] 87, row (some ⟨a12, 0, none⟩) rs39.length cr13 (cf cpt rs39) 32 1, many (rsE 77 74 cols rs39)] := HS.join (F := []) (G := []) H_
                        clear H_
                        refine t_q (n := 1) 21 (.bool false) rfl (by kernel_rfl) (by kernel_rfl) (fun _ _ _ h => h) (fun w' hk => (by kernel_rfl)) HK ?_
                        refine t_q (n := 0) 22 (.bool false) rfl (by kernel_rfl) (by kernel_rfl) (fun _ _ _ h => h) (fun w' hk => (by kernel_rfl)) HK ?_
                        refine t_done (by kernel_rfl) ?_
                        clear HV HK
                        refine x_then ?_
                        refine wp_cond_false (by kernel_rfl) ?_
                        refine wp_skip ?_
                        refine x_inb ?_
                        refine x_then ?_
                        refine wp_region_lit ?_
                        refine ql (.int .i64 k) (by kernel_rfl) (by kernel_rfl) ?_
                        refine ql (.int .i64 (k + 1)) (by kernel_rfl) (R_int (by kernel_rfl) (w64 (by omega))) ?_
                        refine ql (.int .i64 (k + 1)) (by kernel_rfl) (by kernel_rfl) ?_
                        refine wpList_nil ?_
                        refine x_then ?_
                        exact ⟨l.length - (k + 1).toNat, by omega, (fun k_ : Nat => List.getD ((.int .i64 rows) :: (.int .i64 cols) :: (.slice (some ad22) l.length cl) :: undef :: undef :: undef :: ((J17 6)) :: (.pointer (some ⟨g11, 0, none⟩)) :: (.int .i64 0) :: (.int .i64 (k + 1)) :: (.bool false) :: (.bool false) :: (.bool false) :: undef :: undef :: undef :: undef :: undef :: undef :: (.int .i64 rows) :: (.bool false) :: (.bool false) :: (.int .i64 cols) :: (.bool false) :: (.bool false) :: (.bool false) :: (.int .i64 rows) :: (.bool false) :: (.bool false) :: (.bool false) :: (.int .i64 cols) :: (.bool false) :: (.bool false) :: (.bool false) :: (.slice (some ad22) l.length cl) :: (.int .i64 (l.length : Int)) :: (.bool false) :: (.bool false) :: undef :: (.tuple #[.pointer (some ⟨g11, 0, none⟩), .int .i64 0]) :: (.int .i64 rows) :: (.int .i64 cols) :: (.tuple #[.pointer (some ⟨g11, 0, none⟩), .int .i64 0]) :: (.pointer (some ⟨g11, 0, none⟩)) :: (.int .i64 0) :: (.pointer (some ⟨g11, 0, none⟩)) :: (.bool false) :: (.bool false) :: (.int .i64 0) :: (.bool false) :: (.bool false) :: (.int .i64 k) :: (.slice (some ad22) l.length cl) :: (.int .i64 (l.length : Int)) :: (.bool true) :: (.int .i64 k) :: (.int .i64 (k + 1)) :: (.pointer (some ⟨g11, 0, none⟩)) :: (.slice (some ad22) l.length cl) :: (.int .i64 k) :: (.pointer (some (ad22.add (k.toNat * 2)))) :: (.pointer (some (ad22.add (k.toNat * 2)))) :: (.int .i64 ((gx l k).1)) :: (.slice (some ad22) l.length cl) :: (.int .i64 k) :: (.pointer (some (ad22.add (k.toNat * 2)))) :: (.pointer (some ((ad22.add (k.toNat * 2)).add 1))) :: (.int .i64 ((gx l k).2)) :: (.bool false) :: (.pointer (some ⟨g11, 0, none⟩)) :: (.slice (some ad22) l.length cl) :: (.int .i64 k) :: (.pointer (some (ad22.add (k.toNat * 2)))) :: (.pointer (some (ad22.add (k.toNat * 2)))) :: (.int .i64 ((gx l k).1)) :: (.slice (some ad22) l.length cl) :: (.int .i64 k) :: (.pointer (some (ad22.add (k.toNat * 2)))) :: (.pointer (some ((ad22.add (k.toNat * 2)).add 1))) :: (.int .i64 ((gx l k).2)) :: (.bool false) :: (.slice (some ad22) l.length cl) :: (.int .i64 k) :: (.pointer (some (ad22.add (k.toNat * 2)))) :: (.pointer (some (ad22.add (k.toNat * 2)))) :: (.int .i64 ((gx l k).1)) :: (.bool true) :: (.bool true) :: (.slice (some ad22) l.length cl) :: (.int .i64 k) :: (.pointer (some (ad22.add (k.toNat * 2)))) :: (.pointer (some (ad22.add (k.toNat * 2)))) :: (.int .i64 ((gx l k).1)) :: (.int .i64 rows) :: (.bool true) :: (.bool true) :: (.bool true) :: (.slice (some ad22) l.length cl) :: (.int .i64 k) :: (.pointer (some (ad22.add (k.toNat * 2)))) :: (.pointer (some ((ad22.add (k.toNat * 2)).add 1))) :: (.int .i64 ((gx l k).2)) :: (.bool true) :: (.bool true) :: (.bool true) :: (.slice (some ad22) l.length cl) :: (.int .i64 k) :: (.pointer (some (ad22.add (k.toNat * 2)))) :: (.pointer (some ((ad22.add (k.toNat * 2)).add 1))) :: (.int .i64 ((gx l k).2)) :: (.int .i64 cols) :: (.bool false) :: (.bool false) :: (.bool false) :: (.bool false) :: (.bool false) :: undef :: undef :: (.bool false) :: (.bool false) :: (.bool false) :: (.pointer (some ⟨g11, 0, none⟩)) :: (.slice (some ad22) l.length cl) :: (.int .i64 k) :: (.pointer (some (ad22.add (k.toNat * 2)))) :: (.pointer (some (ad22.add (k.toNat * 2)))) :: (.int .i64 ((gx l k).1)) :: (.slice (some ad22) l.length cl) :: (.int .i64 k) :: (.pointer (some (ad22.add (k.toNat * 2)))) :: (.pointer (some ((ad22.add (k.toNat * 2)).add 1))) :: (.int .i64 ((gx l k).2)) :: (.bool false) :: (.bool false) :: (.bool false) :: (.bool false) :: undef :: undef :: undef :: undef :: undef :: undef :: undef :: undef :: undef :: undef :: undef :: undef :: undef :: undef :: undef :: undef :: undef :: undef :: undef :: undef :: undef :: undef :: undef :: undef :: undef :: undef :: undef :: undef :: undef :: undef :: undef :: undef :: undef :: undef :: undef :: undef :: undef :: undef :: undef :: undef :: undef :: undef :: undef :: undef :: undef :: undef :: undef :: undef :: undef :: []) k_ undef), k + 1, rs39, (addM Ls_ cols (gx l k).1 (gx l k).2), congrArg Fr (by kernel_rfl), rfl, by omega, by omega, hR40, (by omega), HS⟩
                    · skip
                      refine ql (.bool false) (by kernel_rfl) (R_nbool (p := ((gx l k).2) ≥ (0 : Int)) (by kernel_rfl) (hc44)) ?_
                      refine ql (.bool false) (by kernel_rfl) (by kernel_rfl) ?_
                      refine ql (.bool false) (by kernel_rfl) (by kernel_rfl) ?_
                      refine qln (by kernel_rfl) ?_
                      refine qln (by kernel_rfl) ?_
                      refine qln (by kernel_rfl) ?_
                      refine qln (by kernel_rfl) ?_
                      refine qln (by kernel_rfl) ?_
                      refine qln (by kernel_rfl) ?_
                      refine qln (by kernel_rfl) ?_
                      refine ql (.bool false) (by kernel_rfl) (by kernel_rfl) ?_
                      refine ql (.bool false) (by kernel_rfl) (by kernel_rfl) ?_
                      refine wpList_nil ?_
                      refine x_then ?_
                      refine wp_seq ?_
                      refine t_start HS (fun _ => False) 23 (by kernel_rfl) rfl ?_
                      intro W49 H_ HD_
                      clear HD_
                      replace HS : St W (owns []) W49 [blk g11 [.slice (some ⟨a12, 0, none⟩) rs39.length cr13, .int .i64 cols] 87, row (some ⟨a12, 0, none⟩) rs39.length cr13 (cf cpt rs39) 32 1, many (rsE 77 74 cols rs39)] := H_
                      clear H_
                      have HV := HS
                      have HK := Kpt.refl (fun _ => False) W49
                      refine t_q (n := 22) 0 (.bool false) rfl (by kernel_rfl) (by kernel_rfl) (fun _ _ _ h => h) (fun w' hk => (by kernel_rfl)) HK ?_
                      refine t_q (n := 21) 1 (.bool false) rfl (by kernel_rfl) (by kernel_rfl) (fun _ _ _ h => h) (fun w' hk => (by kernel_rfl)) HK ?_
                      refine t_q (n := 20) 2 (.bool false) rfl (by kernel_rfl) (by kernel_rfl) (fun _ _ _ h => h) (fun w' hk => (by kernel_rfl)) HK ?_
                      refine t_qn (n := 19) 3 rfl (by kernel_rfl) (by kernel_rfl) (fun _ _ _ h => h) HK ?_
                      refine t_qn (n := 18) 4 rfl (by kernel_rfl) (by kernel_rfl) (fun _ _ _ h => h) HK ?_
                      refine t_q (n := 17) 5 (.bool false) rfl (by kernel_rfl) (by kernel_rfl) (fun _ _ _ h => h) (fun w' hk => (by kernel_rfl)) HK ?_
                      refine t_q (n := 16) 6 (.bool false) rfl (by kernel_rfl) (by kernel_rfl) (fun _ _ _ h => h) (fun w' hk => (by kernel_rfl)) HK ?_
                      refine t_q (n := 15) 7 (.bool false) rfl (by kernel_rfl) (by kernel_rfl) (fun _ _ _ h => h) (fun w' hk => (by kernel_rfl)) HK ?_
                      refine t_q (n := 14) 8 (.pointer (some ⟨g11, 0, none⟩)) rfl (by kernel_rfl) (by kernel_rfl) (fun _ _ _ h => h) (fun w' hk => (by kernel_rfl)) HK ?_
                      refine t_q (n := 13) 9 (.slice (some ad22) l.length cl) rfl (by kernel_rfl) (by kernel_rfl) (fun _ _ _ h => h) (fun w' hk => (by kernel_rfl)) HK ?_
                      refine t_q (n := 12) 10 (.int .i64 k) rfl (by kernel_rfl) (by kernel_rfl) (fun _ _ _ h => h) (fun w' hk => (by kernel_rfl)) HK ?_
                      refine t_q (n := 11) 11 (.pointer (some (ad22.add (k.toNat * 2)))) rfl (by kernel_rfl) (by kernel_rfl) (fun _ _ _ h => h) (fun w' hk => (R_indexA (k := .i64) (p := ad22) (n := l.length) (c := cl) (i := k) (by kernel_rfl) (by kernel_rfl) Tryd.underlying44 (by kernel_rfl) (by omega) (by omega))) HK ?_
                      refine t_q (n := 10) 12 (.pointer (some (ad22.add (k.toNat * 2)))) rfl (by kernel_rfl) (by kernel_rfl) (fun _ _ _ h => h) (fun w' hk => (by kernel_rfl)) HK ?_
                      refine t_q (n := 9) 13 (.int .i64 ((gx l k).1)) rfl (by kernel_rfl) (by kernel_rfl) (fun _ _ _ h => h) (fun w' hk => (R_load (p := ad22.add (k.toNat * 2)) (by kernel_rfl) (by kernel_rfl) (by kernel_rfl) (hk.cell (HV.old0 (Rd.elem0 (f := actD) (fun _ => rfl) hra (gx_eq (by omega) (by omega)) rfl))))) HK ?_
                      refine t_q (n := 8) 14 (.slice (some ad22) l.length cl) rfl (by kernel_rfl) (by kernel_rfl) (fun _ _ _ h => h) (fun w' hk => (by kernel_rfl)) HK ?_
                      refine t_q (n := 7) 15 (.int .i64 k) rfl (by kernel_rfl) (by kernel_rfl) (fun _ _ _ h => h) (fun w' hk => (by kernel_rfl)) HK ?_
                      refine t_q (n := 6) 16 (.pointer (some (ad22.add (k.toNat * 2)))) rfl (by kernel_rfl) (by kernel_rfl) (fun _ _ _ h => h) (fun w' hk => (R_indexA (k := .i64) (p := ad22) (n := l.length) (c := cl) (i := k) (by kernel_rfl) (by kernel_rfl) Tryd.underlying44 (by kernel_rfl) (by omega) (by omega))) HK ?_
                      refine t_q (n := 5) 17 (.pointer (some ((ad22.add (k.toNat * 2)).add 1))) rfl (by kernel_rfl) (by kernel_rfl) (fun _ _ _ h => h) (fun w' hk => (by kernel_rfl)) HK ?_
                      refine t_q (n := 4) 18 (.int .i64 ((gx l k).2)) rfl (by kernel_rfl) (by kernel_rfl) (fun _ _ _ h => h) (fun w' hk => (R_load (p := (ad22.add (k.toNat * 2)).add 1) (by kernel_rfl) (by kernel_rfl) (by kernel_rfl) (hk.cell (HV.old0 (Rd.elem1 (k := 1) (f := actD) (fun _ => rfl) hra (gx_eq (by omega) (by omega)) rfl))))) HK ?_
                      refine t_q (n := 3) 20 (.bool false) rfl (by kernel_rfl) (by kernel_rfl) (fun _ _ _ h => h) (fun w' hk => (by kernel_rfl)) HK ?_
                      refine t_c (n := 2) 19 (f := 28) (args := #[.pointer (some ⟨g11, 0, none⟩), .int .i64 ((gx l k).1), .int .i64 ((gx l k).2)]) rfl (by kernel_rfl) (by kernel_rfl) (R_call #[.pointer (some ⟨g11, 0, none⟩), .int .i64 ((gx l k).1), .int .i64 ((gx l k).2)] Tryd.func28 (by kernel_rfl) (by kernel_rfl) (by kernel_rfl)) ?_
                      refine (mhas g11 cr13 (some ⟨a12, 0, none⟩) cols rs39 (addM Ls_ cols (gx l k).1 (gx l k).2) ((gx l k).1) ((gx l k).2) _ (Mr.of HS (i := 0) (j := 1) (m := 2) rfl rfl rfl) hR40 (by omega) (by omega)).mono ?_
                      rintro e W50 ⟨rfl, H_⟩
                      rw [decide_eq_false (by rw [(addM_out hin).1]; exact hRk.not_ hin)]
                      refine ⟨_, rfl, HK.tr H_.kept.nil, ?_⟩
                      replace HK := HK.tr H_.kept.nil
                      replace HS : St W (owns []) W50 [blk g11 [.slice (some ⟨a12, 0, none⟩) rs39.length cr13, .int .i64 cols] 87, row (some ⟨a12, 0, none⟩) rs39.length cr13 (cf cpt rs39) 32 1, many (rsE 77 74 cols rs39)] := HS.join (F := []) (G := []) H_
                      clear H_
                      refine t_q (n := 1) 21 (.bool false) rfl (by kernel_rfl) (by kernel_rfl) (fun _ _ _ h => h) (fun w' hk => (by kernel_rfl)) HK ?_
                      refine t_q (n := 0) 22 (.bool false) rfl (by kernel_rfl) (by kernel_rfl) (fun _ _ _ h => h) (fun w' hk => (by kernel_rfl)) HK ?_
                      refine t_done (by kernel_rfl) ?_
                      clear HV HK
                      refine x_then ?_
                      refine wp_cond_false (by kernel_rfl) ?_
                      refine wp_skip ?_
                      refine x_inb ?_
                      refine x_then ?_
                      refine wp_region_lit ?_
                      refine ql (.int .i64 k) (by kernel_rfl) (by kernel_rfl) ?_
                      refine ql (.int .i64 (k + 1)) (by kernel_rfl) (R_int (by kernel_rfl) (w64 (by omega))) ?_
                      refine ql (.int .i64 (k + 1)) (by kernel_rfl) (by kernel_rfl) ?_
                      refine wpList_nil ?_
                      refine x_then ?_
                      exact ⟨l.length - (k + 1).toNat, by omega, (fun k_ : Nat => List.getD ((.int .i64 rows) :: (.int .i64 cols) :: (.slice (some ad22) l.length cl) :: undef :: undef :: undef :: ((J17 6)) :: (.pointer (some ⟨g11, 0, none⟩)) :: (.int .i64 0) :: (.int .i64 (k + 1)) :: (.bool false) :: (.bool false) :: (.bool false) :: undef :: undef :: undef :: undef :: undef :: undef :: (.int .i64 rows) :: (.bool false) :: (.bool false) :: (.int .i64 cols) :: (.bool false) :: (.bool false) :: (.bool false) :: (.int .i64 rows) :: (.bool false) :: (.bool false) :: (.bool false) :: (.int .i64 cols) :: (.bool false) :: (.bool false) :: (.bool false) :: (.slice (some ad22) l.length cl) :: (.int .i64 (l.length : Int)) :: (.bool false) :: (.bool false) :: undef :: (.tuple #[.pointer (some ⟨g11, 0, none⟩), .int .i64 0]) :: (.int .i64 rows) :: (.int .i64 cols) :: (.tuple #[.pointer (some ⟨g11, 0, none⟩), .int .i64 0]) :: (.pointer (some ⟨g11, 0, none⟩)) :: (.int .i64 0) :: (.pointer (some ⟨g11, 0, none⟩)) :: (.bool false) :: (.bool false) :: (.int .i64 0) :: (.bool false) :: (.bool false) :: (.int .i64 k) :: (.slice (some ad22) l.length cl) :: (.int .i64 (l.length : Int)) :: (.bool true) :: (.int .i64 k) :: (.int .i64 (k + 1)) :: (.pointer (some ⟨g11, 0, none⟩)) :: (.slice (some ad22) l.length cl) :: (.int .i64 k) :: (.pointer (some (ad22.add (k.toNat * 2)))) :: (.pointer (some (ad22.add (k.toNat * 2)))) :: (.int .i64 ((gx l k).1)) :: (.slice (some ad22) l.length cl) :: (.int .i64 k) :: (.pointer (some (ad22.add (k.toNat * 2)))) :: (.pointer (some ((ad22.add (k.toNat * 2)).add 1))) :: (.int .i64 ((gx l k).2)) :: (.bool false) :: (.pointer (some ⟨g11, 0, none⟩)) :: (.slice (some ad22) l.length cl) :: (.int .i64 k) :: (.pointer (some (ad22.add (k.toNat * 2)))) :: (.pointer (some (ad22.add (k.toNat * 2)))) :: (.int .i64 ((gx l k).1)) :: (.slice (some ad22) l.length cl) :: (.int .i64 k) :: (.pointer (some (ad22.add (k.toNat * 2)))) :: (.pointer (some ((ad22.add (k.toNat * 2)).add 1))) :: (.int .i64 ((gx l k).2)) :: (.bool false) :: (.slice (some ad22) l.length cl) :: (.int .i64 k) :: (.pointer (some (ad22.add (k.toNat * 2)))) :: (.pointer (some (ad22.add (k.toNat * 2)))) :: (.int .i64 ((gx l k).1)) :: (.bool true) :: (.bool true) :: (.slice (some ad22) l.length cl) :: (.int .i64 k) :: (.pointer (some (ad22.add (k.toNat * 2)))) :: (.pointer (some (ad22.add (k.toNat * 2)))) :: (.int .i64 ((gx l k).1)) :: (.int .i64 rows) :: (.bool true) :: (.bool true) :: (.bool true) :: (.slice (some ad22) l.length cl) :: (.int .i64 k) :: (.pointer (some (ad22.add (k.toNat * 2)))) :: (.pointer (some ((ad22.add (k.toNat * 2)).add 1))) :: (.int .i64 ((gx l k).2)) :: (.bool false) :: (.bool false) :: (.bool false) :: undef :: undef :: undef :: undef :: undef :: undef :: undef :: (.bool false) :: (.bool false) :: (.bool false) :: (.bool false) :: undef :: undef :: (.bool false) :: (.bool false) :: (.bool false) :: (.pointer (some ⟨g11, 0, none⟩)) :: (.slice (some ad22) l.length cl) :: (.int .i64 k) :: (.pointer (some (ad22.add (k.toNat * 2)))) :: (.pointer (some (ad22.add (k.toNat * 2)))) :: (.int .i64 ((gx l k).1)) :: (.slice (some ad22) l.length cl) :: (.int .i64 k) :: (.pointer (some (ad22.add (k.toNat * 2)))) :: (.pointer (some ((ad22.add (k.toNat * 2)).add 1))) :: (.int .i64 ((gx l k).2)) :: (.bool false) :: (.bool false) :: (.bool false) :: (.bool false) :: undef :: undef :: undef :: undef :: undef :: undef :: undef :: undef :: undef :: undef :: undef :: undef :: undef :: undef :: undef :: undef :: undef :: undef :: undef :: undef :: undef :: undef :: undef :: undef :: undef :: undef :: undef :: undef :: undef :: undef :: undef :: undef :: undef :: undef :: undef :: undef :: undef :: undef :: undef :: undef :: undef :: undef :: undef :: undef :: undef :: undef :: undef :: undef :: undef :: []) k_ undef), k + 1, rs39, (addM Ls_ cols (gx l k).1 (gx l k).2), congrArg Fr (by kernel_rfl), rfl, by omega, by omega, hR40, (by omega), HS⟩
                  · skip
                    refine ql (.bool false) (by kernel_rfl) (R_nbool (p := ((gx l k).1) < rows) (by kernel_rfl) (hc43)) ?_
                    refine ql (.bool false) (by kernel_rfl) (by kernel_rfl) ?_
                    refine ql (.bool false) (by kernel_rfl) (by kernel_rfl) ?_
                    refine qln (by kernel_rfl) ?_
                    refine qln (by kernel_rfl) ?_
                    refine qln (by kernel_rfl) ?_
                    refine qln (by kernel_rfl) ?_
                    refine qln (by kernel_rfl) ?_
                    refine qln (by kernel_rfl) ?_
                    refine ql (.bool false) (by kernel_rfl) (by kernel_rfl) ?_
                    refine ql (.bool false) (by kernel_rfl) (by kernel_rfl) ?_
                    refine qln (by kernel_rfl) ?_
                    refine qln (by kernel_rfl) ?_
                    refine qln (by kernel_rfl) ?_
                    refine qln (by kernel_rfl) ?_
                    refine qln (by kernel_rfl) ?_
                    refine qln (by kernel_rfl) ?_
                    refine qln (by kernel_rfl) ?_
                    refine ql (.bool false) (by kernel_rfl) (by kernel_rfl) ?_
                    refine ql (.bool false) (by kernel_rfl) (by kernel_rfl) ?_
                    refine wpList_nil ?_
                    refine x_then ?_
                    refine wp_seq ?_
                    refine t_start HS (fun _ => False) 23 (by kernel_rfl) rfl ?_
                    intro W51 H_ HD_
                    clear HD_
                    replace HS : St W (owns []) W51 [blk g11 [.slice (some ⟨a12, 0, none⟩) rs39.length cr13, .int .i64 cols] 87, row (some ⟨a12, 0, none⟩) rs39.length cr13 (cf cpt rs39) 32 1, many (rsE 77 74 cols rs39)] := H_
                    clear H_
                    have HV := HS
                    have HK := Kpt.refl (fun _ => False) W51
                    refine t_q (n := 22) 0 (.bool false) rfl (by kernel_rfl) (by kernel_rfl) (fun _ _ _ h => h) (fun w' hk => (by kernel_rfl)) HK ?_
                    refine t_q (n := 21) 1 (.bool false) rfl (by kernel_rfl) (by kernel_rfl) (fun _ _ _ h => h) (fun w' hk => (by kernel_rfl)) HK ?_
                    refine t_q (n := 20) 2 (.bool false) rfl (by kernel_rfl) (by kernel_rfl) (fun _ _ _ h => h) (fun w' hk => (by kernel_rfl)) HK ?_
                    refine t_qn (n := 19) 3 rfl (by kernel_rfl) (by kernel_rfl) (fun _ _ _ h => h) HK ?_
                    refine t_qn (n := 18) 4 rfl (by kernel_rfl) (by kernel_rfl) (fun _ _ _ h => h) HK ?_
                    refine t_q (n := 17) 5 (.bool false) rfl (by kernel_rfl) (by kernel_rfl) (fun _ _ _ h => h) (fun w' hk => (by kernel_rfl)) HK ?_
                    refine t_q (n := 16) 6 (.bool false) rfl (by kernel_rfl) (by kernel_rfl) (fun _ _ _ h => h) (fun w' hk => (by kernel_rfl)) HK ?_
                    refine t_q (n := 15) 7 (.bool false) rfl (by kernel_rfl) (by kernel_rfl) (fun _ _ _ h => h) (fun w' hk => (by kernel_rfl)) HK ?_
                    refine t_q (n := 14) 8 (.pointer (some ⟨g11, 0, none⟩)) rfl (by kernel_rfl) (by kernel_rfl) (fun _ _ _ h => h) (fun w' hk => (by kernel_rfl)) HK ?_
                    refine t_q (n := 13) 9 (.slice (some ad22) l.length cl) rfl (by kernel_rfl) (by kernel_rfl) (fun _ _ _ h => h) (fun w' hk => (by kernel_rfl)) HK ?_
                    refine t_q (n := 12) 10 (.int .i64 k) rfl (by kernel_rfl) (by kernel_rfl) (fun _ _ _ h => h) (fun w' hk => (by kernel_rfl)) HK ?_
                    refine t_q (n := 11) 11 (.pointer (some (ad22.add (k.toNat * 2)))) rfl (by kernel_rfl) (by kernel_rfl) (fun _ _ _ h => h) (fun w' hk => (R_indexA (k := .i64) (p := ad22) (n := l.length) (c := cl) (i := k) (by kernel_rfl) (by kernel_rfl) Tryd.underlying44 (by kernel_rfl) (by omega) (by omega))) HK ?_
                    refine t_q (n := 10) 12 (.pointer (some (ad22.add (k.toNat * 2)))) rfl (by kernel_rfl) (by kernel_rfl) (fun _ _ _ h => h) (fun w' hk => (by kernel_rfl)) HK ?_
                    refine t_q (n := 9) 13 (.int .i64 ((gx l k).1)) rfl (by kernel_rfl) (by kernel_rfl) (fun _ _ _ h => h) (fun w' hk => (R_load (p := ad22.add (k.toNat * 2)) (by kernel_rfl) (by kernel_rfl) (by kernel_rfl) (hk.cell (HV.old0 (Rd.elem0 (f := actD) (fun _ => rfl) hra (gx_eq (by omega) (by omega)) rfl))))) HK ?_
                    refine t_q (n := 8) 14 (.slice (some ad22) l.length cl) rfl (by kernel_rfl) (by kernel_rfl) (fun _ _ _ h => h) (fun w' hk => (by kernel_rfl)) HK ?_
                    refine t_q (n := 7) 15 (.int .i64 k) rfl (by kernel_rfl) (by kernel_rfl) (fun _ _ _ h => h) (fun w' hk => (by kernel_rfl)) HK ?_
                    refine t_q (n := 6) 16 (.pointer (some (ad22.add (k.toNat * 2)))) rfl (by kernel_rfl) (by kernel_rfl) (fun _ _ _ h => h) (fun w' hk => (R_indexA (k := .i64) (p := ad22) (n := l.length) (c := cl) (i := k) (by kernel_rfl) (by kernel_rfl) Tryd.underlying44 (by kernel_rfl) (by omega) (by omega))) HK ?_
                    refine t_q (n := 5) 17 (.pointer (some ((ad22.add (k.toNat * 2)).add 1))) rfl (by kernel_rfl) (by kernel_rfl) (fun _ _ _ h => h) (fun w' hk => (by kernel_rfl)) HK ?_
                    refine t_q (n := 4) 18 (.int .i64 ((gx l k).2)) rfl (by kernel_rfl) (by kernel_rfl) (fun _ _ _ h => h) (fun w' hk => (R_load (p := (ad22.add (k.toNat * 2)).add 1) (by kernel_rfl) (by kernel_rfl) (by kernel_rfl) (hk.cell (HV.old0 (Rd.elem1 (k := 1) (f := actD) (fun _ => rfl) hra (gx_eq (by omega) (by omega)) rfl))))) HK ?_
                    refine t_q (n := 3) 20 (.bool false) rfl (by kernel_rfl) (by kernel_rfl) (fun _ _ _ h => h) (fun w' hk => (by kernel_rfl)) HK ?_
                    refine t_c (n := 2) 19 (f := 28) (args := #[.pointer (some ⟨g11, 0, none⟩), .int .i64 ((gx l k).1), .int .i64 ((gx l k).2)]) rfl (by kernel_rfl) (by kernel_rfl) (R_call #[.pointer (some ⟨g11, 0, none⟩), .int .i64 ((gx l k).1), .int .i64 ((gx l k).2)] Tryd.func28 (by kernel_rfl) (by kernel_rfl) (by kernel_rfl)) ?_
                    refine (mhas g11 cr13 (some ⟨a12, 0, none⟩) cols rs39 (addM Ls_ cols (gx l k).1 (gx l k).2) ((gx l k).1) ((gx l k).2) _ (Mr.of HS (i := 0) (j := 1) (m := 2) rfl rfl rfl) hR40 (by omega) (by omega)).mono ?_
                    rintro e W52 ⟨rfl, H_⟩
                    rw [decide_eq_false (by rw [(addM_out hin).1]; exact hRk.not_ hin)]
                    refine ⟨_, rfl, HK.tr H_.kept.nil, ?_⟩
                    replace HK := HK.tr H_.kept.nil
                    replace HS : St W (owns []) W52 [blk g11 [.slice (some ⟨a12, 0, none⟩) rs39.length cr13, .int .i64 cols] 87, row (some ⟨a12, 0, none⟩) rs39.length cr13 (cf cpt rs39) 32 1, many (rsE 77 74 cols rs39)] := HS.join (F := []) (G := []) H_
                    clear H_
                    refine t_q (n := 1) 21 (.bool false) rfl (by kernel_rfl) (by kernel_rfl) (fun _ _ _ h => h) (fun w' hk => (by kernel_rfl)) HK ?_
                    refine t_q (n := 0) 22 (.bool false) rfl (by kernel_rfl) (by kernel_rfl) (fun _ _ _ h => h) (fun w' hk => (by kernel_rfl)) HK ?_
                    refine t_done (by kernel_rfl) ?_
                    clear HV HK
                    refine x_then ?_
                    refine wp_cond_false (by kernel_rfl) ?_
                    refine wp_skip ?_
                    refine x_inb ?_
                    refine x_then ?_
                    refine wp_region_lit ?_
                    refine ql (.int .i64 k) (by kernel_rfl) (by kernel_rfl) ?_
                    refine ql (.int .i64 (k + 1)) (by kernel_rfl) (R_int (by kernel_rfl) (w64 (by omega))) ?_
                    refine ql (.int .i64 (k + 1)) (by kernel_rfl) (by kernel_rfl) ?_
                    refine wpList_nil ?_
                    refine x_then ?_
                    exact ⟨l.length - (k + 1).toNat, by omega, (fun k_ : Nat => List.getD ((.int .i64 rows) :: (.int .i64 cols) :: (.slice (some ad22) l.length cl) :: undef :: undef :: undef :: ((J17 6)) :: (.pointer (some ⟨g11, 0, none⟩)) :: (.int .i64 0) :: (.int .i64 (k + 1)) :: (.bool false) :: (.bool false) :: (.bool false) :: undef :: undef :: undef :: undef :: undef :: undef :: (.int .i64 rows) :: (.bool false) :: (.bool false) :: (.int .i64 cols) :: (.bool false) :: (.bool false) :: (.bool false) :: (.int .i64 rows) :: (.bool false) :: (.bool false) :: (.bool false) :: (.int .i64 cols) :: (.bool false) :: (.bool false) :: (.bool false) :: (.slice (some ad22) l.length cl) :: (.int .i64 (l.length : Int)) :: (.bool false) :: (.bool false) :: undef :: (.tuple #[.pointer (some ⟨g11, 0, none⟩), .int .i64 0]) :: (.int .i64 rows) :: (.int .i64 cols) :: (.tuple #[.pointer (some ⟨g11, 0, none⟩), .int .i64 0]) :: (.pointer (some ⟨g11, 0, none⟩)) :: (.int .i64 0) :: (.pointer (some ⟨g11, 0, none⟩)) :: (.bool false) :: (.bool false) :: (.int .i64 0) :: (.bool false) :: (.bool false) :: (.int .i64 k) :: (.slice (some ad22) l.length cl) :: (.int .i64 (l.length : Int)) :: (.bool true) :: (.int .i64 k) :: (.int .i64 (k + 1)) :: (.pointer (some ⟨g11, 0, none⟩)) :: (.slice (some ad22) l.length cl) :: (.int .i64 k) :: (.pointer (some (ad22.add (k.toNat * 2)))) :: (.pointer (some (ad22.add (k.toNat * 2)))) :: (.int .i64 ((gx l k).1)) :: (.slice (some ad22) l.length cl) :: (.int .i64 k) :: (.pointer (some (ad22.add (k.toNat * 2)))) :: (.pointer (some ((ad22.add (k.toNat * 2)).add 1))) :: (.int .i64 ((gx l k).2)) :: (.bool false) :: (.pointer (some ⟨g11, 0, none⟩)) :: (.slice (some ad22) l.length cl) :: (.int .i64 k) :: (.pointer (some (ad22.add (k.toNat * 2)))) :: (.pointer (some (ad22.add (k.toNat * 2)))) :: (.int .i64 ((gx l k).1)) :: (.slice (some ad22) l.length cl) :: (.int .i64 k) :: (.pointer (some (ad22.add (k.toNat * 2)))) :: (.pointer (some ((ad22.add (k.toNat * 2)).add 1))) :: (.int .i64 ((gx l k).2)) :: (.bool false) :: (.slice (some ad22) l.length cl) :: (.int .i64 k) :: (.pointer (some (ad22.add (k.toNat * 2)))) :: (.pointer (some (ad22.add (k.toNat * 2)))) :: (.int .i64 ((gx l k).1)) :: (.bool true) :: (.bool true) :: (.slice (some ad22) l.length cl) :: (.int .i64 k) :: (.pointer (some (ad22.add (k.toNat * 2)))) :: (.pointer (some (ad22.add (k.toNat * 2)))) :: (.int .i64 ((gx l k).1)) :: (.int .i64 rows) :: (.bool false) :: (.bool false) :: (.bool false) :: undef :: undef :: undef :: undef :: undef :: undef :: (.bool false) :: (.bool false) :: undef :: undef :: undef :: undef :: undef :: undef :: undef :: (.bool false) :: (.bool false) :: (.bool false) :: (.bool false) :: undef :: undef :: (.bool false) :: (.bool false) :: (.bool false) :: (.pointer (some ⟨g11, 0, none⟩)) :: (.slice (some ad22) l.length cl) :: (.int .i64 k) :: (.pointer (some (ad22.add (k.toNat * 2)))) :: (.pointer (some (ad22.add (k.toNat * 2)))) :: (.int .i64 ((gx l k).1)) :: (.slice (some ad22) l.length cl) :: (.int .i64 k) :: (.pointer (some (ad22.add (k.toNat * 2)))) :: (.pointer (some ((ad22.add (k.toNat * 2)).add 1))) :: (.int .i64 ((gx l k).2)) :: (.bool false) :: (.bool false) :: (.bool false) :: (.bool false) :: undef :: undef :: undef :: undef :: undef :: undef :: undef :: undef :: undef :: undef :: undef :: undef :: undef :: undef :: undef :: undef :: undef :: undef :: undef :: undef :: undef :: undef :: undef :: undef :: undef :: undef :: undef :: undef :: undef :: undef :: undef :: undef :: undef :: undef :: undef :: undef :: undef :: undef :: undef :: undef :: undef :: undef :: undef :: undef :: undef :: undef :: undef :: undef :: undef :: []) k_ undef), k + 1, rs39, (addM Ls_ cols (gx l k).1 (gx l k).2), congrArg Fr (by kernel_rfl), rfl, by omega, by omega, hR40, (by omega), HS⟩
                · skip
                  refine ql (.bool false) (by kernel_rfl) (R_nbool (p := ((gx l k).1) ≥ (0 : Int)) (by kernel_rfl) (hc42)) ?_
                  refine ql (.bool false) (by kernel_rfl) (by kernel_rfl) ?_
                  refine qln (by kernel_rfl) ?_
                  refine qln (by kernel_rfl) ?_
                  refine qln (by kernel_rfl) ?_
                  refine qln (by kernel_rfl) ?_
                  refine qln (by kernel_rfl) ?_
                  refine qln (by kernel_rfl) ?_
                  refine qln (by kernel_rfl) ?_
                  refine ql (.bool false) (by kernel_rfl) (by kernel_rfl) ?_
                  refine ql (.bool false) (by kernel_rfl) (by kernel_rfl) ?_
                  refine qln (by kernel_rfl) ?_
                  refine qln (by kernel_rfl) ?_
                  refine qln (by kernel_rfl) ?_
                  refine qln (by kernel_rfl) ?_
                  refine qln (by kernel_rfl) ?_
                  refine qln (by kernel_rfl) ?_
                  refine ql (.bool false) (by kernel_rfl) (by kernel_rfl) ?_
                  refine ql (.bool false) (by kernel_rfl) (by kernel_rfl) ?_
                  refine qln (by kernel_rfl) ?_
                  refine qln (by kernel_rfl) ?_
                  refine qln (by kernel_rfl) ?_
                  refine qln (by kernel_rfl) ?_
                  refine qln (by kernel_rfl) ?_
                  refine qln (by kernel_rfl) ?_
                  refine qln (by kernel_rfl) ?_
                  refine ql (.bool false) (by kernel_rfl) (by kernel_rfl) ?_
                  refine ql (.bool false) (by kernel_rfl) (by kernel_rfl) ?_
                  refine wpList_nil ?_
                  refine x_then ?_
                  refine wp_seq ?_
                  refine t_start HS (fun _ => False) 23 (by kernel_rfl) rfl ?_
                  intro W53 H_ HD_
                  clear HD_
                  replace HS : St W (owns []) W53 [blk g11 [.slice (some ⟨a12, 0, none⟩) rs39.length cr13, .int .i64 cols] 87, row (some ⟨a12, 0, none⟩) rs39.length cr13 (cf cpt rs39) 32 1, many (rsE 77 74 cols rs39)] := H_
                  clear H_
                  have HV := HS
                  have HK := Kpt.refl (fun _ => False) W53
                  refine t_q (n := 22) 0 (.bool false) rfl (by kernel_rfl) (by kernel_rfl) (fun _ _ _ h => h) (fun w' hk => (by kernel_rfl)) HK ?_
                  refine t_q (n := 21) 1 (.bool false) rfl (by kernel_rfl) (by kernel_rfl) (fun _ _ _ h => h) (fun w' hk => (by kernel_rfl)) HK ?_
                  refine t_q (n := 20) 2 (.bool false) rfl (by kernel_rfl) (by kernel_rfl) (fun _ _ _ h => h) (fun w' hk => (by kernel_rfl)) HK ?_
                  refine t_qn (n := 19) 3 rfl (by kernel_rfl) (by kernel_rfl) (fun _ _ _ h => h) HK ?_
                  refine t_qn (n := 18) 4 rfl (by kernel_rfl) (by kernel_rfl) (fun _ _ _ h => h) HK ?_
                  refine t_q (n := 17) 5 (.bool false) rfl (by kernel_rfl) (by kernel_rfl) (fun _ _ _ h => h) (fun w' hk => (by kernel_rfl)) HK ?_
                  refine t_q (n := 16) 6 (.bool false) rfl (by kernel_rfl) (by kernel_rfl) (fun _ _ _ h => h) (fun w' hk => (by kernel_rfl)) HK ?_
                  refine t_q (n := 15) 7 (.bool false) rfl (by kernel_rfl) (by kernel_rfl) (fun _ _ _ h => h) (fun w' hk => (by kernel_rfl)) HK ?_
                  refine t_q (n := 14) 8 (.pointer (some ⟨g11, 0, none⟩)) rfl (by kernel_rfl) (by kernel_rfl) (fun _ _ _ h => h) (fun w' hk => (by kernel_rfl)) HK ?_
                  refine t_q (n := 13) 9 (.slice (some ad22) l.length cl) rfl (by kernel_rfl) (by kernel_rfl) (fun _ _ _ h => h) (fun w' hk => (by kernel_rfl)) HK ?_
                  refine t_q (n := 12) 10 (.int .i64 k) rfl (by kernel_rfl) (by kernel_rfl) (fun _ _ _ h => h) (fun w' hk => (by kernel_rfl)) HK ?_
                  refine t_q (n := 11) 11 (.pointer (some (ad22.add (k.toNat * 2)))) rfl (by kernel_rfl) (by kernel_rfl) (fun _ _ _ h => h) (fun w' hk => (R_indexA (k := .i64) (p := ad22) (n := l.length) (c := cl) (i := k) (by kernel_rfl) (by kernel_rfl) Tryd.underlying44 (by kernel_rfl) (by omega) (by omega))) HK ?_
                  refine t_q (n := 10) 12 (.pointer (some (ad22.add (k.toNat * 2)))) rfl (by kernel_rfl) (by kernel_rfl) (fun _ _ _ h => h) (fun w' hk => (by kernel_rfl)) HK ?_
                  refine t_q (n := 9) 13 (.int .i64 ((gx l k).1)) rfl (by kernel_rfl) (by kernel_rfl) (fun _ _ _ h => h) (fun w' hk => (R_load (p := ad22.add (k.toNat * 2)) (by kernel_rfl) (by kernel_rfl) (by kernel_rfl) (hk.cell (HV.old0 (Rd.elem0 (f := actD) (fun _ => rfl) hra (gx_eq (by omega) (by omega)) rfl))))) HK ?_
                  refine t_q (n := 8) 14 (.slice (some ad22) l.length cl) rfl (by kernel_rfl) (by kernel_rfl) (fun _ _ _ h => h) (fun w' hk => (by kernel_rfl)) HK ?_
                  refine t_q (n := 7) 15 (.int .i64 k) rfl (by kernel_rfl) (by kernel_rfl) (fun _ _ _ h => h) (fun w' hk => (by kernel_rfl)) HK ?_
                  refine t_q (n := 6) 16 (.pointer (some (ad22.add (k.toNat * 2)))) rfl (by kernel_rfl) (by kernel_rfl) (fun _ _ _ h => h) (fun w' hk => (R_indexA (k := .i64) (p := ad22) (n := l.length) (c := cl) (i := k) (by kernel_rfl) (by kernel_rfl) Tryd.underlying44 (by kernel_rfl) (by omega) (by omega))) HK ?_
                  refine t_q (n := 5) 17 (.pointer (some ((ad22.add (k.toNat * 2)).add 1))) rfl (by kernel_rfl) (by kernel_rfl) (fun _ _ _ h => h) (fun w' hk => (by kernel_rfl)) HK ?_
                  refine t_q (n := 4) 18 (.int .i64 ((gx l k).2)) rfl (by kernel_rfl) (by kernel_rfl) (fun _ _ _ h => h) (fun w' hk => (R_load (p := (ad22.add (k.toNat * 2)).add 1) (by kernel_rfl) (by kernel_rfl) (by kernel_rfl) (hk.cell (HV.old0 (Rd.elem1 (k := 1) (f := actD) (fun _ => rfl) hra (gx_eq (by omega) (by omega)) rfl))))) HK ?_
                  refine t_q (n := 3) 20 (.bool false) rfl (by kernel_rfl) (by kernel_rfl) (fun _ _ _ h => h) (fun w' hk => (by kernel_rfl)) HK ?_
                  refine t_c (n := 2) 19 (f := 28) (args := #[.pointer (some ⟨g11, 0, none⟩), .int .i64 ((gx l k).1), .int .i64 ((gx l k).2)]) rfl (by kernel_rfl) (by kernel_rfl) (R_call #[.pointer (some ⟨g11, 0, none⟩), .int .i64 ((gx l k).1), .int .i64 ((gx l k).2)] Tryd.func28 (by kernel_rfl) (by kernel_rfl) (by kernel_rfl)) ?_
                  refine (mhas g11 cr13 (some ⟨a12, 0, none⟩) cols rs39 (addM Ls_ cols (gx l k).1 (gx l k).2) ((gx l k).1) ((gx l k).2) _ (Mr.of HS (i := 0) (j := 1) (m := 2) rfl rfl rfl) hR40 (by omega) (by omega)).mono ?_
                  rintro e W54 ⟨rfl, H_⟩
                  rw [decide_eq_false (by rw [(addM_out hin).1]; exact hRk.not_ hin)]
                  refine ⟨_, rfl, HK.tr H_.kept.nil, ?_⟩
                  replace HK := HK.tr H_.kept.nil
                  replace HS : St W (owns []) W54 [blk g11 [.slice (some ⟨a12, 0, none⟩) rs39.length cr13, .int .i64 cols] 87, row (some ⟨a12, 0, none⟩) rs39.length cr13 (cf cpt rs39) 32 1, many (rsE 77 74 cols rs39)] := HS.join (F := []) (G := []) H_
                  clear H_
                  refine t_q (n := 1) 21 (.bool false) rfl (by kernel_rfl) (by kernel_rfl) (fun _ _ _ h => h) (fun w' hk => (by kernel_rfl)) HK ?_
                  refine t_q (n := 0) 22 (.bool false) rfl (by kernel_rfl) (by kernel_rfl) (fun _ _ _ h => h) (fun w' hk => (by kernel_rfl)) HK ?_
                  refine t_done (by kernel_rfl) ?_
                  clear HV HK
                  refine x_then ?_
                  refine wp_cond_false (by kernel_rfl) ?_
                  refine wp_skip ?_
                  refine x_inb ?_
                  refine x_then ?_
                  refine wp_region_lit ?_
                  refine ql (.int .i64 k) (by kernel_rfl) (by kernel_rfl) ?_
                  refine ql (.int .i64 (k + 1)) (by kernel_rfl) (R_int (by kernel_rfl) (w64 (by omega))) ?_
                  refine ql (.int .i64 (k + 1)) (by kernel_rfl) (by kernel_rfl) ?_
                  refine wpList_nil ?_
                  refine x_then ?_
                  exact ⟨l.length - (k + 1).toNat, by omega, (fun k_ : Nat => List.getD ((.int .i64 rows) :: (.int .i64 cols) :: (.slice (some ad22) l.length cl) :: undef :: undef :: undef :: ((J17 6)) :: (.pointer (some ⟨g11, 0, none⟩)) :: (.int .i64 0) :: (.int .i64 (k + 1)) :: (.bool false) :: (.bool false) :: (.bool false) :: undef :: undef :: undef :: undef :: undef :: undef :: (.int .i64 rows) :: (.bool false) :: (.bool false) :: (.int .i64 cols) :: (.bool false) :: (.bool false) :: (.bool false) :: (.int .i64 rows) :: (.bool false) :: (.bool false) :: (.bool false) :: (.int .i64 cols) :: (.bool false) :: (.bool false) :: (.bool false) :: (.slice (some ad22) l.length cl) :: (.int .i64 (l.length : Int)) :: (.bool false) :: (.bool false) :: undef :: (.tuple #[.pointer (some ⟨g11, 0, none⟩), .int .i64 0]) :: (.int .i64 rows) :: (.int .i64 cols) :: (.tuple #[.pointer (some ⟨g11, 0, none⟩), .int .i64 0]) :: (.pointer (some ⟨g11, 0, none⟩)) :: (.int .i64 0) :: (.pointer (some ⟨g11, 0, none⟩)) :: (.bool false) :: (.bool false) :: (.int .i64 0) :: (.bool false) :: (.bool false) :: (.int .i64 k) :: (.slice (some ad22) l.length cl) :: (.int .i64 (l.length : Int)) :: (.bool true) :: (.int .i64 k) :: (.int .i64 (k + 1)) :: (.pointer (some ⟨g11, 0, none⟩)) :: (.slice (some ad22) l.length cl) :: (.int .i64 k) :: (.pointer (some (ad22.add (k.toNat * 2)))) :: (.pointer (some (ad22.add (k.toNat * 2)))) :: (.int .i64 ((gx l k).1)) :: (.slice (some ad22) l.length cl) :: (.int .i64 k) :: (.pointer (some (ad22.add (k.toNat * 2)))) :: (.pointer (some ((ad22.add (k.toNat * 2)).add 1))) :: (.int .i64 ((gx l k).2)) :: (.bool false) :: (.pointer (some ⟨g11, 0, none⟩)) :: (.slice (some ad22) l.length cl) :: (.int .i64 k) :: (.pointer (some (ad22.add (k.toNat * 2)))) :: (.pointer (some (ad22.add (k.toNat * 2)))) :: (.int .i64 ((gx l k).1)) :: (.slice (some ad22) l.length cl) :: (.int .i64 k) :: (.pointer (some (ad22.add (k.toNat * 2)))) :: (.pointer (some ((ad22.add (k.toNat * 2)).add 1))) :: (.int .i64 ((gx l k).2)) :: (.bool false) :: (.slice (some ad22) l.length cl) :: (.int .i64 k) :: (.pointer (some (ad22.add (k.toNat * 2)))) :: (.pointer (some (ad22.add (k.toNat * 2)))) :: (.int .i64 ((gx l k).1)) :: (.bool false) :: (.bool false) :: undef :: undef :: undef :: undef :: undef :: undef :: undef :: (.bool false) :: (.bool false) :: undef :: undef :: undef :: undef :: undef :: undef :: (.bool false) :: (.bool false) :: undef :: undef :: undef :: undef :: undef :: undef :: undef :: (.bool false) :: (.bool false) :: (.bool false) :: (.bool false) :: undef :: undef :: (.bool false) :: (.bool false) :: (.bool false) :: (.pointer (some ⟨g11, 0, none⟩)) :: (.slice (some ad22) l.length cl) :: (.int .i64 k) :: (.pointer (some (ad22.add (k.toNat * 2)))) :: (.pointer (some (ad22.add (k.toNat * 2)))) :: (.int .i64 ((gx l k).1)) :: (.slice (some ad22) l.length cl) :: (.int .i64 k) :: (.pointer (some (ad22.add (k.toNat * 2)))) :: (.pointer (some ((ad22.add (k.toNat * 2)).add 1))) :: (.int .i64 ((gx l k).2)) :: (.bool false) :: (.bool false) :: (.bool false) :: (.bool false) :: undef :: undef :: undef :: undef :: undef :: undef :: undef :: undef :: undef :: undef :: undef :: undef :: undef :: undef :: undef :: undef :: undef :: undef :: undef :: undef :: undef :: undef :: undef :: undef :: undef :: undef :: undef :: undef :: undef :: undef :: undef :: undef :: undef :: undef :: undef :: undef :: undef :: undef :: undef :: undef :: undef :: undef :: undef :: undef :: undef :: undef :: undef :: undef :: undef :: []) k_ undef), k + 1, rs39, (addM Ls_ cols (gx l k).1 (gx l k).2), congrArg Fr (by kernel_rfl), rfl, by omega, by omega, hR40, (by omega), HS⟩
            · skip
              refine ql (.bool false) (by kernel_rfl) (R_nbool (p := k < (l.length : Int)) (by kernel_rfl) (hc20)) ?_
              refine wpList_nil ?_
              refine x_then ?_
              refine wp_cond_false (by kernel_rfl) ?_
              refine wp_exit ?_
              refine x_thenE ?_
              refine x_thenE ?_
              refine x_hit ?_
              refine x_then ?_
              refine wp_seq ?_
              refine wp_region_lit ?_
              refine ql (.int .i64 0) (by kernel_rfl) (by kernel_rfl) ?_
              refine ql (.int .i64 0) (by kernel_rfl) (by kernel_rfl) ?_
              refine wpList_nil ?_
              refine x_then ?_
              refine wp_seq ?_
              refine wp_seq ?_
              refine wp_region_lit ?_
              refine ql (.int .i64 0) (by kernel_rfl) (by kernel_rfl) ?_
              refine wpList_nil ?_
              refine x_then ?_
              refine wp_block ?_
              refine wp_loop_ghost (fun kq a' w' => ∃ (J55 : Nat → Value) (r : Int) (a : Int) , a' = Fr ((.int .i64 rows) :: (.int .i64 cols) :: (.slice Al l.length cl) :: undef :: undef :: undef :: ((J17 6)) :: (.pointer (some ⟨g11, 0, none⟩)) :: (.int .i64 0) :: (.int .i64 k) :: ((J17 10)) :: ((J17 11)) :: ((J17 12)) :: (.int .i64 a) :: (.int .i64 0) :: (.int .i64 r) :: undef :: undef :: undef :: (.int .i64 rows) :: (.bool false) :: (.bool false) :: (.int .i64 cols) :: (.bool false) :: (.bool false) :: (.bool false) :: (.int .i64 rows) :: (.bool false) :: (.bool false) :: (.bool false) :: (.int .i64 cols) :: (.bool false) :: (.bool false) :: (.bool false) :: (.slice Al l.length cl) :: (.int .i64 (l.length : Int)) :: (.bool false) :: (.bool false) :: undef :: (.tuple #[.pointer (some ⟨g11, 0, none⟩), .int .i64 0]) :: (.int .i64 rows) :: (.int .i64 cols) :: (.tuple #[.pointer (some ⟨g11, 0, none⟩), .int .i64 0]) :: (.pointer (some ⟨g11, 0, none⟩)) :: (.int .i64 0) :: (.pointer (some ⟨g11, 0, none⟩)) :: (.bool false) :: (.bool false) :: (.int .i64 0) :: (.bool false) :: (.bool false) :: (.int .i64 k) :: (.slice Al l.length cl) :: (.int .i64 (l.length : Int)) :: (.bool false) :: ((J17 55)) :: ((J17 56)) :: ((J17 57)) :: ((J17 58)) :: ((J17 59)) :: ((J17 60)) :: ((J17 61)) :: ((J17 62)) :: ((J17 63)) :: ((J17 64)) :: ((J17 65)) :: ((J17 66)) :: ((J17 67)) :: ((J17 68)) :: ((J17 69)) :: ((J17 70)) :: ((J17 71)) :: ((J17 72)) :: ((J17 73)) :: ((J17 74)) :: ((J17 75)) :: ((J17 76)) :: ((J17 77)) :: ((J17 78)) :: ((J17 79)) :: ((J17 80)) :: ((J17 81)) :: ((J17 82)) :: ((J17 83)) :: ((J17 84)) :: ((J17 85)) :: ((J17 86)) :: ((J17 87)) :: ((J17 88)) :: ((J17 89)) :: ((J17 90)) :: ((J17 91)) :: ((J17 92)) :: ((J17 93)) :: ((J17 94)) :: ((J17 95)) :: ((J17 96)) :: ((J17 97)) :: ((J17 98)) :: ((J17 99)) :: ((J17 100)) :: ((J17 101)) :: ((J17 102)) :: ((J17 103)) :: ((J17 104)) :: ((J17 105)) :: ((J17 106)) :: ((J17 107)) :: ((J17 108)) :: ((J17 109)) :: ((J17 110)) :: ((J17 111)) :: ((J17 112)) :: ((J17 113)) :: ((J17 114)) :: ((J17 115)) :: ((J17 116)) :: ((J17 117)) :: ((J17 118)) :: ((J17 119)) :: ((J17 120)) :: ((J17 121)) :: ((J17 122)) :: ((J17 123)) :: ((J17 124)) :: ((J17 125)) :: ((J17 126)) :: ((J17 127)) :: ((J17 128)) :: ((J17 129)) :: ((J17 130)) :: ((J17 131)) :: ((J17 132)) :: ((J17 133)) :: ((J17 134)) :: ((J17 135)) :: ((J55 136)) :: ((J55 137)) :: ((J55 138)) :: ((J55 139)) :: ((J55 140)) :: ((J55 141)) :: ((J55 142)) :: ((J55 143)) :: ((J55 144)) :: ((J55 145)) :: ((J55 146)) :: undef :: undef :: undef :: undef :: undef :: undef :: undef :: undef :: undef :: undef :: undef :: undef :: undef :: undef :: undef :: undef :: undef :: undef :: undef :: undef :: undef :: undef :: undef :: undef :: undef :: undef :: undef :: undef :: undef :: undef :: undef :: undef :: undef :: undef :: undef :: undef :: undef :: undef :: []) ∧ kq = (rows.toNat - (r).toNat) ∧ (0 ≤ r) ∧ (r ≤ rows) ∧ (0 ≤ a) ∧ (a ≤ 65600 * r) ∧ (CntP Ls_ r a) ∧ St W (owns []) w' [blk g11 [.slice (some ⟨a12, 0, none⟩) rs_.length cr13, .int .i64 cols] 87, row (some ⟨a12, 0, none⟩) rs_.length cr13 (cf cpt rs_) 32 1, many (rsE 77 74 cols rs_)]) (rows.toNat - ((0 : Int)).toNat) ⟨(fun k_ : Nat => List.getD ((.int .i64 rows) :: (.int .i64 cols) :: (.slice Al l.length cl) :: undef :: undef :: undef :: ((J17 6)) :: (.pointer (some ⟨g11, 0, none⟩)) :: (.int .i64 0) :: (.int .i64 k) :: ((J17 10)) :: ((J17 11)) :: ((J17 12)) :: (.int .i64 0) :: (.int .i64 0) :: (.int .i64 0) :: undef :: undef :: undef :: (.int .i64 rows) :: (.bool false) :: (.bool false) :: (.int .i64 cols) :: (.bool false) :: (.bool false) :: (.bool false) :: (.int .i64 rows) :: (.bool false) :: (.bool false) :: (.bool false) :: (.int .i64 cols) :: (.bool false) :: (.bool false) :: (.bool false) :: (.slice Al l.length cl) :: (.int .i64 (l.length : Int)) :: (.bool false) :: (.bool false) :: undef :: (.tuple #[.pointer (some ⟨g11, 0, none⟩), .int .i64 0]) :: (.int .i64 rows) :: (.int .i64 cols) :: (.tuple #[.pointer (some ⟨g11, 0, none⟩), .int .i64 0]) :: (.pointer (some ⟨g11, 0, none⟩)) :: (.int .i64 0) :: (.pointer (some ⟨g11, 0, none⟩)) :: (.bool false) :: (.bool false) :: (.int .i64 0) :: (.bool false) :: (.bool false) :: (.int .i64 k) :: (.slice Al l.length cl) :: (.int .i64 (l.length : Int)) :: (.bool false) :: ((J17 55)) :: ((J17 56)) :: ((J17 57)) :: ((J17 58)) :: ((J17 59)) :: ((J17 60)) :: ((J17 61)) :: ((J17 62)) :: ((J17 63)) :: ((J17 64)) :: ((J17 65)) :: ((J17 66)) :: ((J17 67)) :: ((J17 68)) :: ((J17 69)) :: ((J17 70)) :: ((J17 71)) :: ((J17 72)) :: ((J17 73)) :: ((J17 74)) :: ((J17 75)) :: ((J17 76)) :: ((J17 77)) :: ((J17 78)) :: ((J17 79)) :: ((J17 80)) :: ((J17 81)) :: ((J17 82)) :: ((J17 83)) :: ((J17 84)) :: ((J17 85)) :: ((J17 86)) :: ((J17 87)) :: ((J17 88)) :: ((J17 89)) :: ((J17 90)) :: ((J17 91)) :: ((J17 92)) :: ((J17 93)) :: ((J17 94)) :: ((J17 95)) :: ((J17 96)) :: ((J17 97)) :: ((J17 98)) :: ((J17 99)) :: ((J17 100)) :: ((J17 101)) :: ((J17 102)) :: ((J17 103)) :: ((J17 104)) :: ((J17 105)) :: ((J17 106)) :: ((J17 107)) :: ((J17 108)) :: ((J17 109)) :: ((J17 110)) :: ((J17 111)) :: ((J17 112)) :: ((J17 113)) :: ((J17 114)) :: ((J17 115)) :: ((J17 116)) :: ((J17 117)) :: ((J17 118)) :: ((J17 119)) :: ((J17 120)) :: ((J17 121)) :: ((J17 122)) :: ((J17 123)) :: ((J17 124)) :: ((J17 125)) :: ((J17 126)) :: ((J17 127)) :: ((J17 128)) :: ((J17 129)) :: ((J17 130)) :: ((J17 131)) :: ((J17 132)) :: ((J17 133)) :: ((J17 134)) :: ((J17 135)) :: undef :: undef :: undef :: undef :: undef :: undef :: undef :: undef :: undef :: undef :: undef :: undef :: undef :: undef :: undef :: undef :: undef :: undef :: undef :: undef :: undef :: undef :: undef :: undef :: undef :: undef :: undef :: undef :: undef :: undef :: undef :: undef :: undef :: undef :: undef :: undef :: undef :: undef :: undef :: undef :: undef :: undef :: undef :: undef :: undef :: undef :: undef :: undef :: undef :: []) k_ undef), (0 : Int), (0 : Int), congrArg Fr (by kernel_rfl), rfl, by omega, by omega, by omega, by omega, cntP_start Ls_, HS⟩ ?_
              clear HS
              intro kq56 a' W57 hrel
              obtain ⟨J55, r, a, rfl, hk, r0, r1, a0, a1, hP, HS⟩ := hrel
              refine wp_seq ?_
              refine wp_seq ?_
              refine wp_region_lit ?_
              refine ql (.int .i64 r) (by kernel_rfl) (by kernel_rfl) ?_
              refine ql (.int .i64 rows) (by kernel_rfl) (by kernel_rfl) ?_
              by_cases hc58 : r < rows
              · skip
                refine ql (.bool true) (by kernel_rfl) (R_bool (p := r < rows) (by kernel_rfl) (hc58)) ?_
                refine wpList_nil ?_
                refine x_then ?_
                refine wp_cond_true (by kernel_rfl) ?_
                refine wp_skip ?_
                refine x_then ?_
                refine wp_seq ?_
                refine wp_block ?_
                refine wp_region_lit ?_
                refine ql (.int .i64 a) (by kernel_rfl) (by kernel_rfl) ?_
                refine ql (.pointer (some ⟨g11, 0, none⟩)) (by kernel_rfl) (by kernel_rfl) ?_
                refine ql (.int .i64 r) (by kernel_rfl) (by kernel_rfl) ?_
                refine qc (f := 32) (args := #[.pointer (some ⟨g11, 0, none⟩), .int .i64 r]) (by kernel_rfl) (R_call #[.pointer (some ⟨g11, 0, none⟩), .int .i64 r] Tryd.func32 (by kernel_rfl) (by kernel_rfl) (by kernel_rfl)) ?_
                have hrl := hRk.rlen (r := r) (by omega)
                refine (mlist g11 cr13 (some ⟨a12, 0, none⟩) cols rs_ Ls_ r _ (Mr.of HS (i := 0) (j := 1) (m := 2) rfl rfl rfl) hRk (by omega) (by omega) (hT.old0 HS)).mono ?_
                rintro e W61 ⟨A59, c60, rfl, H_⟩
                refine ⟨_, rfl, ?_⟩
                replace HS : St W (owns []) W61 [row A59 ((rowL Ls_ r).length) c60 (ci .i64 (rowL Ls_ r)) 3 1, blk g11 [.slice (some ⟨a12, 0, none⟩) rs_.length cr13, .int .i64 cols] 87, row (some ⟨a12, 0, none⟩) rs_.length cr13 (cf cpt rs_) 32 1, many (rsE 77 74 cols rs_)] := HS.join (F := []) (G := [row A59 ((rowL Ls_ r).length) c60 (ci .i64 (rowL Ls_ r)) 3 1]) H_
                clear H_
                refine ql (.int .i64 ((rowL Ls_ r).length : Int)) (by kernel_rfl) (by kernel_rfl) ?_
                refine ql (.int .i64 (a + ((rowL Ls_ r).length : Int))) (by kernel_rfl) (R_int (by kernel_rfl) (w64 (by omega))) ?_
                refine ql (.int .i64 (a + ((rowL Ls_ r).length : Int))) (by kernel_rfl) (by kernel_rfl) ?_
                refine wpList_nil ?_
                refine x_inb ?_
                refine x_then ?_
                refine wp_region_lit ?_
                refine ql (.int .i64 r) (by kernel_rfl) (by kernel_rfl) ?_
                refine ql (.int .i64 (r + 1)) (by kernel_rfl) (R_int (by kernel_rfl) (w64 (by omega))) ?_
                refine ql (.int .i64 (r + 1)) (by kernel_rfl) (by kernel_rfl) ?_
                refine wpList_nil ?_
                replace HS := HS.drop1
                refine x_then ?_
                exact ⟨rows.toNat - (r + 1).toNat, by omega, (fun k_ : Nat => List.getD ((.int .i64 rows) :: (.int .i64 cols) :: (.slice Al l.length cl) :: undef :: undef :: undef :: ((J17 6)) :: (.pointer (some ⟨g11, 0, none⟩)) :: (.int .i64 0) :: (.int .i64 k) :: ((J17 10)) :: ((J17 11)) :: ((J17 12)) :: (.int .i64 (a + ((rowL Ls_ r).length : Int))) :: (.int .i64 0) :: (.int .i64 (r + 1)) :: undef :: undef :: undef :: (.int .i64 rows) :: (.bool false) :: (.bool false) :: (.int .i64 cols) :: (.bool false) :: (.bool false) :: (.bool false) :: (.int .i64 rows) :: (.bool false) :: (.bool false) :: (.bool false) :: (.int .i64 cols) :: (.bool false) :: (.bool false) :: (.bool false) :: (.slice Al l.length cl) :: (.int .i64 (l.length : Int)) :: (.bool false) :: (.bool false) :: undef :: (.tuple #[.pointer (some ⟨g11, 0, none⟩), .int .i64 0]) :: (.int .i64 rows) :: (.int .i64 cols) :: (.tuple #[.pointer (some ⟨g11, 0, none⟩), .int .i64 0]) :: (.pointer (some ⟨g11, 0, none⟩)) :: (.int .i64 0) :: (.pointer (some ⟨g11, 0, none⟩)) :: (.bool false) :: (.bool false) :: (.int .i64 0) :: (.bool false) :: (.bool false) :: (.int .i64 k) :: (.slice Al l.length cl) :: (.int .i64 (l.length : Int)) :: (.bool false) :: ((J17 55)) :: ((J17 56)) :: ((J17 57)) :: ((J17 58)) :: ((J17 59)) :: ((J17 60)) :: ((J17 61)) :: ((J17 62)) :: ((J17 63)) :: ((J17 64)) :: ((J17 65)) :: ((J17 66)) :: ((J17 67)) :: ((J17 68)) :: ((J17 69)) :: ((J17 70)) :: ((J17 71)) :: ((J17 72)) :: ((J17 73)) :: ((J17 74)) :: ((J17 75)) :: ((J17 76)) :: ((J17 77)) :: ((J17 78)) :: ((J17 79)) :: ((J17 80)) :: ((J17 81)) :: ((J17 82)) :: ((J17 83)) :: ((J17 84)) :: ((J17 85)) :: ((J17 86)) :: ((J17 87)) :: ((J17 88)) :: ((J17 89)) :: ((J17 90)) :: ((J17 91)) :: ((J17 92)) :: ((J17 93)) :: ((J17 94)) :: ((J17 95)) :: ((J17 96)) :: ((J17 97)) :: ((J17 98)) :: ((J17 99)) :: ((J17 100)) :: ((J17 101)) :: ((J17 102)) :: ((J17 103)) :: ((J17 104)) :: ((J17 105)) :: ((J17 106)) :: ((J17 107)) :: ((J17 108)) :: ((J17 109)) :: ((J17 110)) :: ((J17 111)) :: ((J17 112)) :: ((J17 113)) :: ((J17 114)) :: ((J17 115)) :: ((J17 116)) :: ((J17 117)) :: ((J17 118)) :: ((J17 119)) :: ((J17 120)) :: ((J17 121)) :: ((J17 122)) :: ((J17 123)) :: ((J17 124)) :: ((J17 125)) :: ((J17 126)) :: ((J17 127)) :: ((J17 128)) :: ((J17 129)) :: ((J17 130)) :: ((J17 131)) :: ((J17 132)) :: ((J17 133)) :: ((J17 134)) :: ((J17 135)) :: (.int .i64 r) :: (.int .i64 rows) :: (.bool true) :: (.int .i64 r) :: (.int .i64 (r + 1)) :: (.int .i64 a) :: (.pointer (some ⟨g11, 0, none⟩)) :: (.int .i64 r) :: (.slice A59 ((rowL Ls_ r).length) c60) :: (.int .i64 ((rowL Ls_ r).length : Int)) :: (.int .i64 (a + ((rowL Ls_ r).length : Int))) :: undef :: undef :: undef :: undef :: undef :: undef :: undef :: undef :: undef :: undef :: undef :: undef :: undef :: undef :: undef :: undef :: undef :: undef :: undef :: undef :: undef :: undef :: undef :: undef :: undef :: undef :: undef :: undef :: undef :: undef :: undef :: undef :: undef :: undef :: undef :: undef :: undef :: undef :: []) k_ undef), r + 1, a + ((rowL Ls_ r).length : Int), congrArg Fr (by kernel_rfl), rfl, by omega, by omega, by omega, by omega, (cntP_step hP r0 (by omega)), HS⟩
              · skip
                refine ql (.bool false) (by kernel_rfl) (R_nbool (p := r < rows) (by kernel_rfl) (hc58)) ?_
                refine wpList_nil ?_
                refine x_then ?_
                refine wp_cond_false (by kernel_rfl) ?_
                refine wp_exit ?_
                refine x_thenE ?_
                refine x_thenE ?_
                refine x_hit ?_
                refine x_then ?_
                refine wp_seq ?_
                refine wp_seq ?_
                refine wp_region_lit ?_
                refine ql (.int .i64 0) (by kernel_rfl) (by kernel_rfl) ?_
                refine wpList_nil ?_
                refine x_then ?_
                refine wp_block ?_
                refine wp_loop_ghost (fun kq a' w' => ∃ (J62 : Nat → Value) (c : Int) (b : Int) , a' = Fr ((.int .i64 rows) :: (.int .i64 cols) :: (.slice Al l.length cl) :: undef :: undef :: undef :: ((J62 6)) :: (.pointer (some ⟨g11, 0, none⟩)) :: (.int .i64 0) :: (.int .i64 k) :: ((J17 10)) :: ((J17 11)) :: ((J17 12)) :: (.int .i64 a) :: (.int .i64 b) :: (.int .i64 r) :: (.int .i64 c) :: ((J62 17)) :: ((J62 18)) :: (.int .i64 rows) :: (.bool false) :: (.bool false) :: (.int .i64 cols) :: (.bool false) :: (.bool false) :: (.bool false) :: (.int .i64 rows) :: (.bool false) :: (.bool false) :: (.bool false) :: (.int .i64 cols) :: (.bool false) :: (.bool false) :: (.bool false) :: (.slice Al l.length cl) :: (.int .i64 (l.length : Int)) :: (.bool false) :: (.bool false) :: undef :: (.tuple #[.pointer (some ⟨g11, 0, none⟩), .int .i64 0]) :: (.int .i64 rows) :: (.int .i64 cols) :: (.tuple #[.pointer (some ⟨g11, 0, none⟩), .int .i64 0]) :: (.pointer (some ⟨g11, 0, none⟩)) :: (.int .i64 0) :: (.pointer (some ⟨g11, 0, none⟩)) :: (.bool false) :: (.bool false) :: (.int .i64 0) :: (.bool false) :: (.bool false) :: (.int .i64 k) :: (.slice Al l.length cl) :: (.int .i64 (l.length : Int)) :: (.bool false) :: ((J17 55)) :: ((J17 56)) :: ((J17 57)) :: ((J17 58)) :: ((J17 59)) :: ((J17 60)) :: ((J17 61)) :: ((J17 62)) :: ((J17 63)) :: ((J17 64)) :: ((J17 65)) :: ((J17 66)) :: ((J17 67)) :: ((J17 68)) :: ((J17 69)) :: ((J17 70)) :: ((J17 71)) :: ((J17 72)) :: ((J17 73)) :: ((J17 74)) :: ((J17 75)) :: ((J17 76)) :: ((J17 77)) :: ((J17 78)) :: ((J17 79)) :: ((J17 80)) :: ((J17 81)) :: ((J17 82)) :: ((J17 83)) :: ((J17 84)) :: ((J17 85)) :: ((J17 86)) :: ((J17 87)) :: ((J17 88)) :: ((J17 89)) :: ((J17 90)) :: ((J17 91)) :: ((J17 92)) :: ((J17 93)) :: ((J17 94)) :: ((J17 95)) :: ((J17 96)) :: ((J17 97)) :: ((J17 98)) :: ((J17 99)) :: ((J17 100)) :: ((J17 101)) :: ((J17 102)) :: ((J17 103)) :: ((J17 104)) :: ((J17 105)) :: ((J17 106)) :: ((J17 107)) :: ((J17 108)) :: ((J17 109)) :: ((J17 110)) :: ((J17 111)) :: ((J17 112)) :: ((J17 113)) :: ((J17 114)) :: ((J17 115)) :: ((J17 116)) :: ((J17 117)) :: ((J17 118)) :: ((J17 119)) :: ((J17 120)) :: ((J17 121)) :: ((J17 122)) :: ((J17 123)) :: ((J17 124)) :: ((J17 125)) :: ((J17 126)) :: ((J17 127)) :: ((J17 128)) :: ((J17 129)) :: ((J17 130)) :: ((J17 131)) :: ((J17 132)) :: ((J17 133)) :: ((J17 134)) :: ((J17 135)) :: (.int .i64 r) :: (.int .i64 rows) :: (.bool false) :: ((J55 139)) :: ((J55 140)) :: ((J55 141)) :: ((J55 142)) :: ((J55 143)) :: ((J55 144)) :: ((J55 145)) :: ((J55 146)) :: ((J62 147)) :: ((J62 148)) :: ((J62 149)) :: ((J62 150)) :: ((J62 151)) :: ((J62 152)) :: ((J62 153)) :: ((J62 154)) :: ((J62 155)) :: ((J62 156)) :: ((J62 157)) :: ((J62 158)) :: ((J62 159)) :: ((J62 160)) :: ((J62 161)) :: ((J62 162)) :: ((J62 163)) :: ((J62 164)) :: ((J62 165)) :: ((J62 166)) :: ((J62 167)) :: ((J62 168)) :: ((J62 169)) :: ((J62 170)) :: ((J62 171)) :: ((J62 172)) :: undef :: undef :: undef :: undef :: undef :: undef :: undef :: undef :: undef :: undef :: undef :: undef :: []) ∧ kq = (cols.toNat - (c).toNat) ∧ (0 ≤ c) ∧ (c ≤ cols) ∧ (0 ≤ b) ∧ (b ≤ 65600 * c) ∧ (b = clmS Ls_ rs_.length (c).toNat) ∧ St W (owns []) w' [blk g11 [.slice (some ⟨a12, 0, none⟩) rs_.length cr13, .int .i64 cols] 87, row (some ⟨a12, 0, none⟩) rs_.length cr13 (cf cpt rs_) 32 1, many (rsE 77 74 cols rs_)]) (cols.toNat - ((0 : Int)).toNat) ⟨(fun k_ : Nat => List.getD ((.int .i64 rows) :: (.int .i64 cols) :: (.slice Al l.length cl) :: undef :: undef :: undef :: ((J17 6)) :: (.pointer (some ⟨g11, 0, none⟩)) :: (.int .i64 0) :: (.int .i64 k) :: ((J17 10)) :: ((J17 11)) :: ((J17 12)) :: (.int .i64 a) :: (.int .i64 0) :: (.int .i64 r) :: (.int .i64 0) :: undef :: undef :: (.int .i64 rows) :: (.bool false) :: (.bool false) :: (.int .i64 cols) :: (.bool false) :: (.bool false) :: (.bool false) :: (.int .i64 rows) :: (.bool false) :: (.bool false) :: (.bool false) :: (.int .i64 cols) :: (.bool false) :: (.bool false) :: (.bool false) :: (.slice Al l.length cl) :: (.int .i64 (l.length : Int)) :: (.bool false) :: (.bool false) :: undef :: (.tuple #[.pointer (some ⟨g11, 0, none⟩), .int .i64 0]) :: (.int .i64 rows) :: (.int .i64 cols) :: (.tuple #[.pointer (some ⟨g11, 0, none⟩), .int .i64 0]) :: (.pointer (some ⟨g11, 0, none⟩)) :: (.int .i64 0) :: (.pointer (some ⟨g11, 0, none⟩)) :: (.bool false) :: (.bool false) :: (.int .i64 0) :: (.bool false) :: (.bool false) :: (.int .i64 k) :: (.slice Al l.length cl) :: (.int .i64 (l.length : Int)) :: (.bool false) :: ((J17 55)) :: ((J17 56)) :: ((J17 57)) :: ((J17 58)) :: ((J17 59)) :: ((J17 60)) :: ((J17 61)) :: ((J17 62)) :: ((J17 63)) :: ((J17 64)) :: ((J17 65)) :: ((J17 66)) :: ((J17 67)) :: ((J17 68)) :: ((J17 69)) :: ((J17 70)) :: ((J17 71)) :: ((J17 72)) :: ((J17 73)) :: ((J17 74)) :: ((J17 75)) :: ((J17 76)) :: ((J17 77)) :: ((J17 78)) :: ((J17 79)) :: ((J17 80)) :: ((J17 81)) :: ((J17 82)) :: ((J17 83)) :: ((J17 84)) :: ((J17 85)) :: ((J17 86)) :: ((J17 87)) :: ((J17 88)) :: ((J17 89)) :: ((J17 90)) :: ((J17 91)) :: ((J17 92)) :: ((J17 93)) :: ((J17 94)) :: ((J17 95)) :: ((J17 96)) :: ((J17 97)) :: ((J17 98)) :: ((J17 99)) :: ((J17 100)) :: ((J17 101)) :: ((J17 102)) :: ((J17 103)) :: ((J17 104)) :: ((J17 105)) :: ((J17 106)) :: ((J17 107)) :: ((J17 108)) :: ((J17 109)) :: ((J17 110)) :: ((J17 111)) :: ((J17 112)) :: ((J17 113)) :: ((J17 114)) :: ((J17 115)) :: ((J17 116)) :: ((J17 117)) :: ((J17 118)) :: ((J17 119)) :: ((J17 120)) :: ((J17 121)) :: ((J17 122)) :: ((J17 123)) :: ((J17 124)) :: ((J17 125)) :: ((J17 126)) :: ((J17 127)) :: ((J17 128)) :: ((J17 129)) :: ((J17 130)) :: ((J17 131)) :: ((J17 132)) :: ((J17 133)) :: ((J17 134)) :: ((J17 135)) :: (.int .i64 r) :: (.int .i64 rows) :: (.bool false) :: ((J55 139)) :: ((J55 140)) :: ((J55 141)) :: ((J55 142)) :: ((J55 143)) :: ((J55 144)) :: ((J55 145)) :: ((J55 146)) :: undef :: undef :: undef :: undef :: undef :: undef :: undef :: undef :: undef :: undef :: undef :: undef :: undef :: undef :: undef :: undef :: undef :: undef :: undef :: undef :: undef :: undef :: undef :: undef :: undef :: undef :: undef :: undef :: undef :: undef :: undef :: undef :: undef :: undef :: undef :: undef :: undef :: undef :: []) k_ undef), (0 : Int), (0 : Int), congrArg Fr (by kernel_rfl), rfl, by omega, by omega, by omega, by omega, rfl, HS⟩ ?_
                clear HS
                intro kq63 a' W64 hrel
                obtain ⟨J62, c, b, rfl, hk, c0, c1, b0, b1, hS, HS⟩ := hrel
                refine wp_seq ?_
                refine wp_seq ?_
                refine wp_region_lit ?_
                refine ql (.int .i64 c) (by kernel_rfl) (by kernel_rfl) ?_
                refine ql (.int .i64 cols) (by kernel_rfl) (by kernel_rfl) ?_
                by_cases hc65 : c < cols
                · skip
                  refine ql (.bool true) (by kernel_rfl) (R_bool (p := c < cols) (by kernel_rfl) (hc65)) ?_
                  refine wpList_nil ?_
                  refine x_then ?_
                  refine wp_cond_true (by kernel_rfl) ?_
                  refine wp_skip ?_
                  refine x_then ?_
                  refine wp_seq ?_
                  refine wp_block ?_
                  refine wp_seq ?_
                  refine wp_region_lit ?_
                  refine ql (.pointer (some ⟨g11, 0, none⟩)) (by kernel_rfl) (by kernel_rfl) ?_
                  refine ql (.int .i64 c) (by kernel_rfl) (by kernel_rfl) ?_
                  refine qc (f := 34) (args := #[.pointer (some ⟨g11, 0, none⟩), .int .i64 c]) (by kernel_rfl) (R_call #[.pointer (some ⟨g11, 0, none⟩), .int .i64 c] Tryd.func34 (by kernel_rfl) (by kernel_rfl) (by kernel_rfl)) ?_
                  have hcl := colL_le (Ls := Ls_) (c := c) (n := rs_.length)
                  refine (mcol g11 cr13 (some ⟨a12, 0, none⟩) cols rs_ Ls_ c _ (Mr.of HS (i := 0) (j := 1) (m := 2) rfl rfl rfl) hRk (by omega) (by omega)).mono ?_
                  rintro e W68 ⟨A66, c67, rfl, H_⟩
                  refine ⟨_, rfl, ?_⟩
                  replace HS : St W (owns []) W68 [row A66 ((colL Ls_ c (rs_.length : Int)).length) c67 (ci .i64 (colL Ls_ c (rs_.length : Int))) 3 1, blk g11 [.slice (some ⟨a12, 0, none⟩) rs_.length cr13, .int .i64 cols] 87, row (some ⟨a12, 0, none⟩) rs_.length cr13 (cf cpt rs_) 32 1, many (rsE 77 74 cols rs_)] := HS.join (F := []) (G := [row A66 ((colL Ls_ c (rs_.length : Int)).length) c67 (ci .i64 (colL Ls_ c (rs_.length : Int))) 3 1]) H_
                  clear H_
                  refine ql (.slice A66 ((colL Ls_ c (rs_.length : Int)).length) c67) (by kernel_rfl) (by kernel_rfl) ?_
                  refine wpList_nil ?_
                  refine x_then ?_
                  refine wp_seq ?_
                  refine wp_region_lit ?_
                  refine ql (.int .i64 b) (by kernel_rfl) (by kernel_rfl) ?_
                  refine ql (.slice A66 ((colL Ls_ c (rs_.length : Int)).length) c67) (by kernel_rfl) (by kernel_rfl) ?_
                  refine ql (.int .i64 ((colL Ls_ c (rs_.length : Int)).length : Int)) (by kernel_rfl) (by kernel_rfl) ?_
                  refine ql (.int .i64 (b + ((colL Ls_ c (rs_.length : Int)).length : Int))) (by kernel_rfl) (R_int (by kernel_rfl) (w64 (by omega))) ?_
                  refine ql (.int .i64 (b + ((colL Ls_ c (rs_.length : Int)).length : Int))) (by kernel_rfl) (by kernel_rfl) ?_
                  refine wpList_nil ?_
                  refine x_then ?_
                  refine wp_seq ?_
                  refine wp_region_lit ?_
                  refine ql (.int .i64 0) (by kernel_rfl) (by kernel_rfl) ?_
                  refine wpList_nil ?_
                  refine x_then ?_
                  refine wp_block ?_
                  refine wp_loop_ghost (fun kq a' w' => ∃ (J69 : Nat → Value) (k3 : Int) , a' = Fr ((.int .i64 rows) :: (.int .i64 cols) :: (.slice Al l.length cl) :: undef :: undef :: undef :: ((J69 6)) :: (.pointer (some ⟨g11, 0, none⟩)) :: (.int .i64 0) :: (.int .i64 k) :: ((J17 10)) :: ((J17 11)) :: ((J17 12)) :: (.int .i64 a) :: (.int .i64 (b + ((colL Ls_ c (rs_.length : Int)).length : Int))) :: (.int .i64 r) :: (.int .i64 c) :: (.slice A66 ((colL Ls_ c (rs_.length : Int)).length) c67) :: (.int .i64 k3) :: (.int .i64 rows) :: (.bool false) :: (.bool false) :: (.int .i64 cols) :: (.bool false) :: (.bool false) :: (.bool false) :: (.int .i64 rows) :: (.bool false) :: (.bool false) :: (.bool false) :: (.int .i64 cols) :: (.bool false) :: (.bool false) :: (.bool false) :: (.slice Al l.length cl) :: (.int .i64 (l.length : Int)) :: (.bool false) :: (.bool false) :: undef :: (.tuple #[.pointer (some ⟨g11, 0, none⟩), .int .i64 0]) :: (.int .i64 rows) :: (.int .i64 cols) :: (.tuple #[.pointer (some ⟨g11, 0, none⟩), .int .i64 0]) :: (.pointer (some ⟨g11, 0, none⟩)) :: (.int .i64 0) :: (.pointer (some ⟨g11, 0, none⟩)) :: (.bool false) :: (.bool false) :: (.int .i64 0) :: (.bool false) :: (.bool false) :: (.int .i64 k) :: (.slice Al l.length cl) :: (.int .i64 (l.length : Int)) :: (.bool false) :: ((J17 55)) :: ((J17 56)) :: ((J17 57)) :: ((J17 58)) :: ((J17 59)) :: ((J17 60)) :: ((J17 61)) :: ((J17 62)) :: ((J17 63)) :: ((J17 64)) :: ((J17 65)) :: ((J17 66)) :: ((J17 67)) :: ((J17 68)) :: ((J17 69)) :: ((J17 70)) :: ((J17 71)) :: ((J17 72)) :: ((J17 73)) :: ((J17 74)) :: ((J17 75)) :: ((J17 76)) :: ((J17 77)) :: ((J17 78)) :: ((J17 79)) :: ((J17 80)) :: ((J17 81)) :: ((J17 82)) :: ((J17 83)) :: ((J17 84)) :: ((J17 85)) :: ((J17 86)) :: ((J17 87)) :: ((J17 88)) :: ((J17 89)) :: ((J17 90)) :: ((J17 91)) :: ((J17 92)) :: ((J17 93)) :: ((J17 94)) :: ((J17 95)) :: ((J17 96)) :: ((J17 97)) :: ((J17 98)) :: ((J17 99)) :: ((J17 100)) :: ((J17 101)) :: ((J17 102)) :: ((J17 103)) :: ((J17 104)) :: ((J17 105)) :: ((J17 106)) :: ((J17 107)) :: ((J17 108)) :: ((J17 109)) :: ((J17 110)) :: ((J17 111)) :: ((J17 112)) :: ((J17 113)) :: ((J17 114)) :: ((J17 115)) :: ((J17 116)) :: ((J17 117)) :: ((J17 118)) :: ((J17 119)) :: ((J17 120)) :: ((J17 121)) :: ((J17 122)) :: ((J17 123)) :: ((J17 124)) :: ((J17 125)) :: ((J17 126)) :: ((J17 127)) :: ((J17 128)) :: ((J17 129)) :: ((J17 130)) :: ((J17 131)) :: ((J17 132)) :: ((J17 133)) :: ((J17 134)) :: ((J17 135)) :: (.int .i64 r) :: (.int .i64 rows) :: (.bool false) :: ((J55 139)) :: ((J55 140)) :: ((J55 141)) :: ((J55 142)) :: ((J55 143)) :: ((J55 144)) :: ((J55 145)) :: ((J55 146)) :: (.int .i64 c) :: (.int .i64 cols) :: (.bool true) :: ((J62 150)) :: ((J62 151)) :: (.pointer (some ⟨g11, 0, none⟩)) :: (.int .i64 c) :: (.slice A66 ((colL Ls_ c (rs_.length : Int)).length) c67) :: (.int .i64 b) :: (.slice A66 ((colL Ls_ c (rs_.length : Int)).length) c67) :: (.int .i64 ((colL Ls_ c (rs_.length : Int)).length : Int)) :: (.int .i64 (b + ((colL Ls_ c (rs_.length : Int)).length : Int))) :: ((J69 159)) :: ((J69 160)) :: ((J69 161)) :: ((J69 162)) :: ((J69 163)) :: ((J69 164)) :: ((J69 165)) :: ((J69 166)) :: ((J69 167)) :: ((J69 168)) :: ((J69 169)) :: ((J69 170)) :: ((J69 171)) :: ((J69 172)) :: undef :: undef :: undef :: undef :: undef :: undef :: undef :: undef :: undef :: undef :: undef :: undef :: []) ∧ kq = ((colL Ls_ c (rs_.length : Int)).length - (k3).toNat) ∧ (0 ≤ k3) ∧ (k3 ≤ (colL Ls_ c (rs_.length : Int)).length) ∧ St W (owns []) w' [row A66 ((colL Ls_ c (rs_.length : Int)).length) c67 (ci .i64 (colL Ls_ c (rs_.length : Int))) 3 1, blk g11 [.slice (some ⟨a12, 0, none⟩) rs_.length cr13, .int .i64 cols] 87, row (some ⟨a12, 0, none⟩) rs_.length cr13 (cf cpt rs_) 32 1, many (rsE 77 74 cols rs_)]) ((colL Ls_ c (rs_.length : Int)).length - ((0 : Int)).toNat) ⟨(fun k_ : Nat => List.getD ((.int .i64 rows) :: (.int .i64 cols) :: (.slice Al l.length cl) :: undef :: undef :: undef :: ((J62 6)) :: (.pointer (some ⟨g11, 0, none⟩)) :: (.int .i64 0) :: (.int .i64 k) :: ((J17 10)) :: ((J17 11)) :: ((J17 12)) :: (.int .i64 a) :: (.int .i64 (b + ((colL Ls_ c (rs_.length : Int)).length : Int))) :: (.int .i64 r) :: (.int .i64 c) :: (.slice A66 ((colL Ls_ c (rs_.length : Int)).length) c67) :: (.int .i64 0) :: (.int .i64 rows) :: (.bool false) :: (.bool false) :: (.int .i64 cols) :: (.bool false) :: (.bool false) :: (.bool false) :: (.int .i64 rows) :: (.bool false) :: (.bool false) :: (.bool false) :: (.int .i64 cols) :: (.bool false) :: (.bool false) :: (.bool false) :: (.slice Al l.length cl) :: (.int .i64 (l.length : Int)) :: (.bool false) :: (.bool false) :: undef :: (.tuple #[.pointer (some ⟨g11, 0, none⟩), .int .i64 0]) :: (.int .i64 rows) :: (.int .i64 cols) :: (.tuple #[.pointer (some ⟨g11, 0, none⟩), .int .i64 0]) :: (.pointer (some ⟨g11, 0, none⟩)) :: (.int .i64 0) :: (.pointer (some ⟨g11, 0, none⟩)) :: (.bool false) :: (.bool false) :: (.int .i64 0) :: (.bool false) :: (.bool false) :: (.int .i64 k) :: (.slice Al l.length cl) :: (.int .i64 (l.length : Int)) :: (.bool false) :: ((J17 55)) :: ((J17 56)) :: ((J17 57)) :: ((J17 58)) :: ((J17 59)) :: ((J17 60)) :: ((J17 61)) :: ((J17 62)) :: ((J17 63)) :: ((J17 64)) :: ((J17 65)) :: ((J17 66)) :: ((J17 67)) :: ((J17 68)) :: ((J17 69)) :: ((J17 70)) :: ((J17 71)) :: ((J17 72)) :: ((J17 73)) :: ((J17 74)) :: ((J17 75)) :: ((J17 76)) :: ((J17 77)) :: ((J17 78)) :: ((J17 79)) :: ((J17 80)) :: ((J17 81)) :: ((J17 82)) :: ((J17 83)) :: ((J17 84)) :: ((J17 85)) :: ((J17 86)) :: ((J17 87)) :: ((J17 88)) :: ((J17 89)) :: ((J17 90)) :: ((J17 91)) :: ((J17 92)) :: ((J17 93)) :: ((J17 94)) :: ((J17 95)) :: ((J17 96)) :: ((J17 97)) :: ((J17 98)) :: ((J17 99)) :: ((J17 100)) :: ((J17 101)) :: ((J17 102)) :: ((J17 103)) :: ((J17 104)) :: ((J17 105)) :: ((J17 106)) :: ((J17 107)) :: ((J17 108)) :: ((J17 109)) :: ((J17 110)) :: ((J17 111)) :: ((J17 112)) :: ((J17 113)) :: ((J17 114)) :: ((J17 115)) :: ((J17 116)) :: ((J17 117)) :: ((J17 118)) :: ((J17 119)) :: ((J17 120)) :: ((J17 121)) :: ((J17 122)) :: ((J17 123)) :: ((J17 124)) :: ((J17 125)) :: ((J17 126)) :: ((J17 127)) :: ((J17 128)) :: ((J17 129)) :: ((J17 130)) :: ((J17 131)) :: ((J17 132)) :: ((J17 133)) :: ((J17 134)) :: ((J17 135)) :: (.int .i64 r) :: (.int .i64 rows) :: (.bool false) :: ((J55 139)) :: ((J55 140)) :: ((J55 141)) :: ((J55 142)) :: ((J55 143)) :: ((J55 144)) :: ((J55 145)) :: ((J55 146)) :: (.int .i64 c) :: (.int .i64 cols) :: (.bool true) :: ((J62 150)) :: ((J62 151)) :: (.pointer (some ⟨g11, 0, none⟩)) :: (.int .i64 c) :: (.slice A66 ((colL Ls_ c (rs_.length : Int)).length) c67) :: (.int .i64 b) :: (.slice A66 ((colL Ls_ c (rs_.length : Int)).length) c67) :: (.int .i64 ((colL Ls_ c (rs_.length : Int)).length : Int)) :: (.int .i64 (b + ((colL Ls_ c (rs_.length : Int)).length : Int))) :: ((J62 159)) :: ((J62 160)) :: ((J62 161)) :: ((J62 162)) :: ((J62 163)) :: ((J62 164)) :: ((J62 165)) :: ((J62 166)) :: ((J62 167)) :: ((J62 168)) :: ((J62 169)) :: ((J62 170)) :: ((J62 171)) :: ((J62 172)) :: undef :: undef :: undef :: undef :: undef :: undef :: undef :: undef :: undef :: undef :: undef :: undef :: []) k_ undef), (0 : Int), congrArg Fr (by kernel_rfl), rfl, by omega, by omega, HS⟩ ?_
                  clear HS
                  intro kq70 a' W71 hrel
                  obtain ⟨J69, k3, rfl, hk, k30, k31, HS⟩ := hrel
                  refine wp_seq ?_
                  refine wp_seq ?_
                  refine wp_region_lit ?_
                  refine ql (.int .i64 k3) (by kernel_rfl) (by kernel_rfl) ?_
                  refine ql (.slice A66 ((colL Ls_ c (rs_.length : Int)).length) c67) (by kernel_rfl) (by kernel_rfl) ?_
                  refine ql (.int .i64 ((colL Ls_ c (rs_.length : Int)).length : Int)) (by kernel_rfl) (by kernel_rfl) ?_
                  by_cases hc72 : k3 < ((colL Ls_ c (rs_.length : Int)).length : Int)
                  · skip
                    refine ql (.bool true) (by kernel_rfl) (R_bool (p := k3 < ((colL Ls_ c (rs_.length : Int)).length : Int)) (by kernel_rfl) (hc72)) ?_
                    refine wpList_nil ?_
                    refine x_then ?_
                    refine wp_cond_true (by kernel_rfl) ?_
                    refine wp_skip ?_
                    refine x_then ?_
                    refine wp_seq ?_
                    refine wp_block ?_
                    refine wp_seq ?_
                    refine wp_region_lit ?_
                    refine ql (.pointer (some ⟨g11, 0, none⟩)) (by kernel_rfl) (by kernel_rfl) ?_
                    refine ql (.slice A66 ((colL Ls_ c (rs_.length : Int)).length) c67) (by kernel_rfl) (by kernel_rfl) ?_
                    refine ql (.int .i64 k3) (by kernel_rfl) (by kernel_rfl) ?_
                    obtain ⟨g73, rfl⟩ := St.rsome HS (i := 0) rfl (by omega)
                    refine ql (.pointer (some ⟨g73, k3.toNat, none⟩)) (by kernel_rfl) (R_index1 (k := .i64) (g := g73) (n := ((colL Ls_ c (rs_.length : Int)).length)) (c := c67) (i := k3) (by kernel_rfl) (by kernel_rfl) Tryd.underlying38 (by kernel_rfl) (by omega) (by omega)) ?_
                    refine ql (.int .i64 (rdI (colL Ls_ c (rs_.length : Int)) k3)) (by kernel_rfl) (R_load (p := ⟨g73, k3.toNat, none⟩) (by kernel_rfl) (by kernel_rfl) (by kernel_rfl) (HS.rcell (i := 0) rfl (ci_rd (i := k3) (by omega) (by omega)))) ?_
                    refine ql (.int .i64 c) (by kernel_rfl) (by kernel_rfl) ?_
                    refine qc (f := 28) (args := #[.pointer (some ⟨g11, 0, none⟩), .int .i64 (rdI (colL Ls_ c (rs_.length : Int)) k3), .int .i64 c]) (by kernel_rfl) (R_call #[.pointer (some ⟨g11, 0, none⟩), .int .i64 (rdI (colL Ls_ c (rs_.length : Int)) k3), .int .i64 c] Tryd.func28 (by kernel_rfl) (by kernel_rfl) (by kernel_rfl)) ?_
                    refine (mhas g11 cr13 (some ⟨a12, 0, none⟩) cols rs_ Ls_ (rdI (colL Ls_ c (rs_.length : Int)) k3) c _ (Mr.of HS (i := 1) (j := 2) (m := 3) rfl rfl rfl) hRk (by omega) (by omega)).mono ?_
                    rintro e W74 ⟨rfl, H_⟩
                    rw [decide_eq_true (mem_colL.1 (mem_rd k30 (by omega))).2.2]
                    refine ⟨_, rfl, ?_⟩
                    replace HS : St W (owns []) W74 [row (some ⟨g73, 0, none⟩) ((colL Ls_ c (rs_.length : Int)).length) c67 (ci .i64 (colL Ls_ c (rs_.length : Int))) 3 1, blk g11 [.slice (some ⟨a12, 0, none⟩) rs_.length cr13, .int .i64 cols] 87, row (some ⟨a12, 0, none⟩) rs_.length cr13 (cf cpt rs_) 32 1, many (rsE 77 74 cols rs_)] := HS.join (F := []) (G := []) H_
                    clear H_
                    refine ql (.bool false) (by kernel_rfl) (by kernel_rfl) ?_
                    refine wpList_nil ?_
                    refine x_then ?_
                    refine wp_cond_false (by kernel_rfl) ?_
                    refine wp_skip ?_
                    refine x_inb ?_
                    refine x_then ?_
                    refine wp_region_lit ?_
                    refine ql (.int .i64 k3) (by kernel_rfl) (by kernel_rfl) ?_
                    refine ql (.int .i64 (k3 + 1)) (by kernel_rfl) (R_int (by kernel_rfl) (w64 (by omega))) ?_
                    refine ql (.int .i64 (k3 + 1)) (by kernel_rfl) (by kernel_rfl) ?_
                    refine wpList_nil ?_
                    refine x_then ?_
                    exact ⟨(colL Ls_ c (rs_.length : Int)).length - (k3 + 1).toNat, by omega, (fun k_ : Nat => List.getD ((.int .i64 rows) :: (.int .i64 cols) :: (.slice Al l.length cl) :: undef :: undef :: undef :: ((J69 6)) :: (.pointer (some ⟨g11, 0, none⟩)) :: (.int .i64 0) :: (.int .i64 k) :: ((J17 10)) :: ((J17 11)) :: ((J17 12)) :: (.int .i64 a) :: (.int .i64 (b + ((colL Ls_ c (rs_.length : Int)).length : Int))) :: (.int .i64 r) :: (.int .i64 c) :: (.slice (some ⟨g73, 0, none⟩) ((colL Ls_ c (rs_.length : Int)).length) c67) :: (.int .i64 (k3 + 1)) :: (.int .i64 rows) :: (.bool false) :: (.bool false) :: (.int .i64 cols) :: (.bool false) :: (.bool false) :: (.bool false) :: (.int .i64 rows) :: (.bool false) :: (.bool false) :: (.bool false) :: (.int .i64 cols) :: (.bool false) :: (.bool false) :: (.bool false) :: (.slice Al l.length cl) :: (.int .i64 (l.length : Int)) :: (.bool false) :: (.bool false) :: undef :: (.tuple #[.pointer (some ⟨g11, 0, none⟩), .int .i64 0]) :: (.int .i64 rows) :: (.int .i64 cols) :: (.tuple #[.pointer (some ⟨g11, 0, none⟩), .int .i64 0]) :: (.pointer (some ⟨g11, 0, none⟩)) :: (.int .i64 0) :: (.pointer (some ⟨g11, 0, none⟩)) :: (.bool false) :: (.bool false) :: (.int .i64 0) :: (.bool false) :: (.bool false) :: (.int .i64 k) :: (.slice Al l.length cl) :: (.int .i64 (l.length : Int)) :: (.bool false) :: ((J17 55)) :: ((J17 56)) :: ((J17 57)) :: ((J17 58)) :: ((J17 59)) :: ((J17 60)) :: ((J17 61)) :: ((J17 62)) :: ((J17 63)) :: ((J17 64)) :: ((J17 65)) :: ((J17 66)) :: ((J17 67)) :: ((J17 68)) :: ((J17 69)) :: ((J17 70)) :: ((J17 71)) :: ((J17 72)) :: ((J17 73)) :: ((J17 74)) :: ((J17 75)) :: ((J17 76)) :: ((J17 77)) :: ((J17 78)) :: ((J17 79)) :: ((J17 80)) :: ((J17 81)) :: ((J17 82)) :: ((J17 83)) :: ((J17 84)) :: ((J17 85)) :: ((J17 86)) :: ((J17 87)) :: ((J17 88)) :: ((J17 89)) :: ((J17 90)) :: ((J17 91)) :: ((J17 92)) :: ((J17 93)) :: ((J17 94)) :: ((J17 95)) :: ((J17 96)) :: ((J17 97)) :: ((J17 98)) :: ((J17 99)) :: ((J17 100)) :: ((J17 101)) :: ((J17 102)) :: ((J17 103)) :: ((J17 104)) :: ((J17 105)) :: ((J17 106)) :: ((J17 107)) :: ((J17 108)) :: ((J17 109)) :: ((J17 110)) :: ((J17 111)) :: ((J17 112)) :: ((J17 113)) :: ((J17 114)) :: ((J17 115)) :: ((J17 116)) :: ((J17 117)) :: ((J17 118)) :: ((J17 119)) :: ((J17 120)) :: ((J17 121)) :: ((J17 122)) :: ((J17 123)) :: ((J17 124)) :: ((J17 125)) :: ((J17 126)) :: ((J17 127)) :: ((J17 128)) :: ((J17 129)) :: ((J17 130)) :: ((J17 131)) :: ((J17 132)) :: ((J17 133)) :: ((J17 134)) :: ((J17 135)) :: (.int .i64 r) :: (.int .i64 rows) :: (.bool false) :: ((J55 139)) :: ((J55 140)) :: ((J55 141)) :: ((J55 142)) :: ((J55 143)) :: ((J55 144)) :: ((J55 145)) :: ((J55 146)) :: (.int .i64 c) :: (.int .i64 cols) :: (.bool true) :: ((J62 150)) :: ((J62 151)) :: (.pointer (some ⟨g11, 0, none⟩)) :: (.int .i64 c) :: (.slice (some ⟨g73, 0, none⟩) ((colL Ls_ c (rs_.length : Int)).length) c67) :: (.int .i64 b) :: (.slice (some ⟨g73, 0, none⟩) ((colL Ls_ c (rs_.length : Int)).length) c67) :: (.int .i64 ((colL Ls_ c (rs_.length : Int)).length : Int)) :: (.int .i64 (b + ((colL Ls_ c (rs_.length : Int)).length : Int))) :: (.int .i64 k3) :: (.slice (some ⟨g73, 0, none⟩) ((colL Ls_ c (rs_.length : Int)).length) c67) :: (.int .i64 ((colL Ls_ c (rs_.length : Int)).length : Int)) :: (.bool true) :: (.int .i64 k3) :: (.int .i64 (k3 + 1)) :: (.pointer (some ⟨g11, 0, none⟩)) :: (.slice (some ⟨g73, 0, none⟩) ((colL Ls_ c (rs_.length : Int)).length) c67) :: (.int .i64 k3) :: (.pointer (some ⟨g73, k3.toNat, none⟩)) :: (.int .i64 (rdI (colL Ls_ c (rs_.length : Int)) k3)) :: (.int .i64 c) :: (.bool true) :: (.bool false) :: undef :: undef :: undef :: undef :: undef :: undef :: undef :: undef :: undef :: undef :: undef :: undef :: []) k_ undef), k3 + 1, congrArg Fr (by kernel_rfl), rfl, by omega, by omega, HS⟩
                  · skip
                    refine ql (.bool false) (by kernel_rfl) (R_nbool (p := k3 < ((colL Ls_ c (rs_.length : Int)).length : Int)) (by kernel_rfl) (hc72)) ?_
                    refine wpList_nil ?_
                    refine x_then ?_
                    refine wp_cond_false (by kernel_rfl) ?_
                    refine wp_exit ?_
                    refine x_thenE ?_
                    refine x_thenE ?_
                    refine x_hit ?_
                    refine x_inb ?_
                    refine x_then ?_
                    refine wp_region_lit ?_
                    refine ql (.int .i64 c) (by kernel_rfl) (by kernel_rfl) ?_
                    refine ql (.int .i64 (c + 1)) (by kernel_rfl) (R_int (by kernel_rfl) (w64 (by omega))) ?_
                    refine ql (.int .i64 (c + 1)) (by kernel_rfl) (by kernel_rfl) ?_
                    refine wpList_nil ?_
                    replace HS := HS.drop1
                    refine x_then ?_
                    exact ⟨cols.toNat - (c + 1).toNat, by omega, (fun k_ : Nat => List.getD ((.int .i64 rows) :: (.int .i64 cols) :: (.slice Al l.length cl) :: undef :: undef :: undef :: ((J69 6)) :: (.pointer (some ⟨g11, 0, none⟩)) :: (.int .i64 0) :: (.int .i64 k) :: ((J17 10)) :: ((J17 11)) :: ((J17 12)) :: (.int .i64 a) :: (.int .i64 (b + ((colL Ls_ c (rs_.length : Int)).length : Int))) :: (.int .i64 r) :: (.int .i64 (c + 1)) :: (.slice A66 ((colL Ls_ c (rs_.length : Int)).length) c67) :: (.int .i64 k3) :: (.int .i64 rows) :: (.bool false) :: (.bool false) :: (.int .i64 cols) :: (.bool false) :: (.bool false) :: (.bool false) :: (.int .i64 rows) :: (.bool false) :: (.bool false) :: (.bool false) :: (.int .i64 cols) :: (.bool false) :: (.bool false) :: (.bool false) :: (.slice Al l.length cl) :: (.int .i64 (l.length : Int)) :: (.bool false) :: (.bool false) :: undef :: (.tuple #[.pointer (some ⟨g11, 0, none⟩), .int .i64 0]) :: (.int .i64 rows) :: (.int .i64 cols) :: (.tuple #[.pointer (some ⟨g11, 0, none⟩), .int .i64 0]) :: (.pointer (some ⟨g11, 0, none⟩)) :: (.int .i64 0) :: (.pointer (some ⟨g11, 0, none⟩)) :: (.bool false) :: (.bool false) :: (.int .i64 0) :: (.bool false) :: (.bool false) :: (.int .i64 k) :: (.slice Al l.length cl) :: (.int .i64 (l.length : Int)) :: (.bool false) :: ((J17 55)) :: ((J17 56)) :: ((J17 57)) :: ((J17 58)) :: ((J17 59)) :: ((J17 60)) :: ((J17 61)) :: ((J17 62)) :: ((J17 63)) :: ((J17 64)) :: ((J17 65)) :: ((J17 66)) :: ((J17 67)) :: ((J17 68)) :: ((J17 69)) :: ((J17 70)) :: ((J17 71)) :: ((J17 72)) :: ((J17 73)) :: ((J17 74)) :: ((J17 75)) :: ((J17 76)) :: ((J17 77)) :: ((J17 78)) :: ((J17 79)) :: ((J17 80)) :: ((J17 81)) :: ((J17 82)) :: ((J17 83)) :: ((J17 84)) :: ((J17 85)) :: ((J17 86)) :: ((J17 87)) :: ((J17 88)) :: ((J17 89)) :: ((J17 90)) :: ((J17 91)) :: ((J17 92)) :: ((J17 93)) :: ((J17 94)) :: ((J17 95)) :: ((J17 96)) :: ((J17 97)) :: ((J17 98)) :: ((J17 99)) :: ((J17 100)) :: ((J17 101)) :: ((J17 102)) :: ((J17 103)) :: ((J17 104)) :: ((J17 105)) :: ((J17 106)) :: ((J17 107)) :: ((J17 108)) :: ((J17 109)) :: ((J17 110)) :: ((J17 111)) :: ((J17 112)) :: ((J17 113)) :: ((J17 114)) :: ((J17 115)) :: ((J17 116)) :: ((J17 117)) :: ((J17 118)) :: ((J17 119)) :: ((J17 120)) :: ((J17 121)) :: ((J17 122)) :: ((J17 123)) :: ((J17 124)) :: ((J17 125)) :: ((J17 126)) :: ((J17 127)) :: ((J17 128)) :: ((J17 129)) :: ((J17 130)) :: ((J17 131)) :: ((J17 132)) :: ((J17 133)) :: ((J17 134)) :: ((J17 135)) :: (.int .i64 r) :: (.int .i64 rows) :: (.bool false) :: ((J55 139)) :: ((J55 140)) :: ((J55 141)) :: ((J55 142)) :: ((J55 143)) :: ((J55 144)) :: ((J55 145)) :: ((J55 146)) :: (.int .i64 c) :: (.int .i64 cols) :: (.bool true) :: (.int .i64 c) :: (.int .i64 (c + 1)) :: (.pointer (some ⟨g11, 0, none⟩)) :: (.int .i64 c) :: (.slice A66 ((colL Ls_ c (rs_.length : Int)).length) c67) :: (.int .i64 b) :: (.slice A66 ((colL Ls_ c (rs_.length : Int)).length) c67) :: (.int .i64 ((colL Ls_ c (rs_.length : Int)).length : Int)) :: (.int .i64 (b + ((colL Ls_ c (rs_.length : Int)).length : Int))) :: (.int .i64 k3) :: (.slice A66 ((colL Ls_ c (rs_.length : Int)).length) c67) :: (.int .i64 ((colL Ls_ c (rs_.length : Int)).length : Int)) :: (.bool false) :: ((J69 163)) :: ((J69 164)) :: ((J69 165)) :: ((J69 166)) :: ((J69 167)) :: ((J69 168)) :: ((J69 169)) :: ((J69 170)) :: ((J69 171)) :: ((J69 172)) :: undef :: undef :: undef :: undef :: undef :: undef :: undef :: undef :: undef :: undef :: undef :: undef :: []) k_ undef), c + 1, b + ((colL Ls_ c (rs_.length : Int)).length : Int), congrArg Fr (by kernel_rfl), rfl, by omega, by omega, by omega, by omega, (clmS_step hS c0 rfl), HS⟩
                · skip
                  refine ql (.bool false) (by kernel_rfl) (R_nbool (p := c < cols) (by kernel_rfl) (hc65)) ?_
                  refine wpList_nil ?_
                  refine x_then ?_
                  refine wp_cond_false (by kernel_rfl) ?_
                  refine wp_exit ?_
                  refine x_thenE ?_
                  refine x_thenE ?_
                  refine x_hit ?_
                  refine x_then ?_
                  refine wp_seq ?_
                  have hLl9 := hRk.len
                  have ha9 : a = cntL Ls_ := cntP_end hP (by omega)
                  have hb9 : b = cntL Ls_ := by rw [hS, hRk.len, show c.toNat = cols.toNat by omega, clmS_all (fun r => hRk.srt) (fun r x hx => by have := hRk.lim x hx; omega)]
                  refine wp_region_lit ?_
                  refine ql (.int .i64 a) (by kernel_rfl) (by kernel_rfl) ?_
                  refine ql (.pointer (some ⟨g11, 0, none⟩)) (by kernel_rfl) (by kernel_rfl) ?_
                  refine qc (f := 30) (args := #[.pointer (some ⟨g11, 0, none⟩)]) (by kernel_rfl) (R_call #[.pointer (some ⟨g11, 0, none⟩)] Tryd.func30 (by kernel_rfl) (by kernel_rfl) (by kernel_rfl)) ?_
                  refine (mcount g11 cr13 (some ⟨a12, 0, none⟩) cols rs_ Ls_ _ (Mr.of HS (i := 0) (j := 1) (m := 2) rfl rfl rfl) hRk (by omega) (by omega)).mono ?_
                  rintro e W75 ⟨rfl, H_⟩
                  refine ⟨_, rfl, ?_⟩
                  replace HS : St W (owns []) W75 [blk g11 [.slice (some ⟨a12, 0, none⟩) rs_.length cr13, .int .i64 cols] 87, row (some ⟨a12, 0, none⟩) rs_.length cr13 (cf cpt rs_) 32 1, many (rsE 77 74 cols rs_)] := HS.join (F := []) (G := []) H_
                  clear H_
                  refine ql (.bool true) (by kernel_rfl) (R_beq (b := (a == (cntL Ls_ : Int))) (by kernel_rfl) (beq_t (by omega))) ?_
                  refine ql (.bool true) (by kernel_rfl) (by kernel_rfl) ?_
                  refine ql (.int .i64 b) (by kernel_rfl) (by kernel_rfl) ?_
                  refine ql (.int .i64 a) (by kernel_rfl) (by kernel_rfl) ?_
                  refine ql (.bool true) (by kernel_rfl) (R_beq (b := (b == a)) (by kernel_rfl) (beq_t (by omega))) ?_
                  refine ql (.bool true) (by kernel_rfl) (by kernel_rfl) ?_
                  refine ql (.bool true) (by kernel_rfl) (by kernel_rfl) ?_
                  refine qc (f := 23) (args := #[]) (by kernel_rfl) (R_call #[] Tryd.func23 (by kernel_rfl) (by kernel_rfl) (by kernel_rfl)) ?_
                  refine (mawake _).mono ?_
                  rintro e W76 ⟨rfl, H_⟩
                  refine ⟨_, rfl, ?_⟩
                  replace HS : St W (owns []) W76 [blk g11 [.slice (some ⟨a12, 0, none⟩) rs_.length cr13, .int .i64 cols] 87, row (some ⟨a12, 0, none⟩) rs_.length cr13 (cf cpt rs_) 32 1, many (rsE 77 74 cols rs_)] := HS.join (F := []) (G := []) H_
                  clear H_
                  refine ql (.bool true) (by kernel_rfl) (by kernel_rfl) ?_
                  refine ql (.bool true) (by kernel_rfl) (by kernel_rfl) ?_
                  refine wpList_nil ?_
                  refine x_then ?_
                  refine wp_ret ?_
                  refine ret_ (.bool true) (by kernel_rfl) ?_
                  replace HS := HS.drop1
                  replace HS := HS.drop1
                  replace HS := HS.drop1
                  exact ⟨rfl, HS⟩

end Go.Proofs.YtgoapobflajliaaDoor
