/- Written for this claim by gp.py, a program of this session's, over the kit's print. Lean checks it. -/
import Derived.Test.YtdiodmdohkjafaaGDeclAlikex0
import Derived.Test.YtdiodmdohkjafaaGDeclAlikehspDeclAlikea
import Derived.Test.YtdiodmdohkjafaaGDeclAlikehspDeclAlikec
import Derived.WalkKit
import Derived.StillTailTactics
import Derived.Deep.LoopGhost
import Derived.KernelRfl
import Derived.Deep.OwnRows
import Derived.Laws.OwnMore
import Derived.Laws.MakeOwn
import Derived.Maps.AppendAt
import Derived.OrdersHeld
import Derived.Lib.TrailingZeros
import Derived.Laws.Bits64b
import Derived.Laws.BitsLemmas
import Derived.Laws.Entries
import Derived.RangeFuncWrites
import Derived.RangeFuncLeaves
import Derived.RangeFuncCalls
import Derived.Shelf.Abstract
import Derived.Laws.CopyRow
import Derived.Lib.Overlaps
import Derived.Lib.AppendZerosOnto
import Derived.Lib.SliceRun
import Derived.Laws.IdiomCopy
import Derived.ArgAppend
import Derived.Conc.EntryLaws
import Derived.Maps.OwnSet
import Derived.Maps.Keyed
import Derived.Maps.Views
import Derived.Laws.StructEq
import Derived.ChangeKeysEq
namespace Go.Proofs.Ytdiodmdohkjafaa.GDeclAlike
open Go.RowKit Go.Proofs.YtdiodmdohkjafaaW.PrintWords Go.Proofs.YtdiodmdohkjafaaW.PrintLast Go.Proofs.YtdiodmdohkjafaaW.PrintMore
attribute [local go_sem] max2_int min2_int max_two min_two max_three min_three max_four min_four   -- for this text's walks alone
set_option linter.unusedVariables false
set_option linter.unusedSimpArgs false

--import Derived.WalkKit
--import Derived.StillTailTactics
--import Derived.Deep.LoopGhost
--import Derived.KernelRfl
--import Derived.Deep.OwnRows
--import Derived.Laws.OwnMore
--import Derived.Laws.MakeOwn
--import Derived.Maps.AppendAt
--import Derived.OrdersHeld
--import Derived.Lib.TrailingZeros
--import Derived.Laws.Bits64b
--import Derived.Laws.BitsLemmas
--import Derived.Laws.Entries
--import Derived.RangeFuncWrites
--import Derived.RangeFuncLeaves
--import Derived.RangeFuncCalls
--import Derived.Shelf.Abstract
--import Derived.Laws.CopyRow
--import Derived.Lib.Overlaps
--import Derived.Lib.AppendZerosOnto
--import Derived.Lib.SliceRun
--import Derived.Laws.IdiomCopy
--import Derived.ArgAppend
--import Derived.Conc.EntryLaws
--import Derived.Maps.OwnSet
--import Derived.Maps.Keyed
--import Derived.Maps.Views
--import Derived.Laws.StructEq
--import Derived.ChangeKeysEq
attribute [local irreducible] wpStill wpList Code.wp TA
open Go.Shelf
set_option maxRecDepth 100000 in
set_option maxHeartbeats 1000000 in
theorem kawake (W : World) : Calls Try.prog 18 #[] W fun e W' => e = .returned (.bool true) ∧ St W (owns []) W' [] := by
  have HS : St W (owns []) W [] := St.start W _
  refine calls_enter [undef, undef, undef, undef, undef, undef, undef, undef, undef, undef, undef, undef, undef, undef, undef, undef, undef, undef, undef, undef, undef, undef, undef, undef, undef, undef] Try.func18 rfl (by kernel_rfl) ?_
  refine wp_seq ?_
  refine wp_region_lit ?_
  refine ql (.bool false) (by kernel_rfl) (by kernel_rfl) ?_
  refine wpList_nil ?_
  refine x_then ?_
  refine wp_seq ?_
  refine wp_region_lit ?_
  refine ql (.agg #[.int .i64 1, .int .i64 2]) (by kernel_rfl) (by kernel_rfl) ?_
  refine ql (.agg #[.int .i64 2, .int .i64 3]) (by kernel_rfl) (by kernel_rfl) ?_
  refine kl HS 2 [.int .i64 1, .int .i64 2, .int .i64 2, .int .i64 3] 79 2 (by kernel_rfl) (by kernel_rfl) rfl (by decide) ?_
  intro g1 W2 H_
  replace HS : St W (owns []) W2 [row (some ⟨g1, 0, none⟩) 2 2 (cf prC ([(1, 2), (2, 3)])) 79 2] := H_.cast_ (by kernel_rfl)
  clear H_
  refine qc (f := 19) (args := #[.int .i64 4, .slice (some ⟨g1, 0, none⟩) 2 2]) (by kernel_rfl) (R_call #[.int .i64 4, .slice (some ⟨g1, 0, none⟩) 2 2] Try.func19 (by kernel_rfl) (by kernel_rfl) (by kernel_rfl)) ?_
  refine (kof 4 (some ⟨g1, 0, none⟩) 2 ([(1, 2), (2, 3)] : List (Int × Int)) _ (Rd.row HS (i := 0) rfl) (by first | omega | decide) (by omega) (by omega)).mono ?_
  rintro e W6 ⟨k3, x4, rfl, H_, hok5⟩
  refine ⟨_, rfl, ?_⟩
  replace HS : St W (owns []) W6 [many (knE Try.prog 83 3 3 105 98 113 110 k3 4 x4), row (some ⟨g1, 0, none⟩) 2 2 (cf prC ([(1, 2), (2, 3)])) 79 2] := HS.join (F := []) (G := [many (knE Try.prog 83 3 3 105 98 113 110 k3 4 x4)]) H_
  clear H_
  refine ql (.pointer (some ⟨k3, 0, none⟩)) (by kernel_rfl) (by kernel_rfl) ?_
  refine wpList_nil ?_
  refine x_then ?_
  refine wp_seq ?_
  refine wp_region_lit ?_
  refine ql (.pointer (some ⟨k3, 0, none⟩)) (by kernel_rfl) (by kernel_rfl) ?_
  refine qc (f := 21) (args := #[.pointer (some ⟨k3, 0, none⟩), .int .i64 1, .int .i64 3]) (by kernel_rfl) (R_call #[.pointer (some ⟨k3, 0, none⟩), .int .i64 1, .int .i64 3] Try.func21 (by kernel_rfl) (by kernel_rfl) (by kernel_rfl)) ?_
  refine (khasP k3 4 x4 ([(1, 2), (2, 3)] : List (Int × Int)) 1 3 _ (HS.hasP (i := 0) rfl) hok5 (by omega) (by first | omega | decide)).mono ?_
  rintro e W7 ⟨rfl, H_⟩
  rw [show knB 4 [(1, 2), (2, 3)] 1 3 = true from by kernel_rfl]
  refine ⟨_, rfl, ?_⟩
  replace HS : St W (owns []) W7 [many (knE Try.prog 83 3 3 105 98 113 110 k3 4 x4), row (some ⟨g1, 0, none⟩) 2 2 (cf prC ([(1, 2), (2, 3)])) 79 2] := HS.join (F := []) (G := []) H_
  clear H_
  refine ql (.bool true) (by kernel_rfl) (by kernel_rfl) ?_
  refine ql (.pointer (some ⟨k3, 0, none⟩)) (by kernel_rfl) (by kernel_rfl) ?_
  refine qc (f := 21) (args := #[.pointer (some ⟨k3, 0, none⟩), .int .i64 3, .int .i64 1]) (by kernel_rfl) (R_call #[.pointer (some ⟨k3, 0, none⟩), .int .i64 3, .int .i64 1] Try.func21 (by kernel_rfl) (by kernel_rfl) (by kernel_rfl)) ?_
  refine (khasP k3 4 x4 ([(1, 2), (2, 3)] : List (Int × Int)) 3 1 _ (HS.hasP (i := 0) rfl) hok5 (by omega) (by first | omega | decide)).mono ?_
  rintro e W8 ⟨rfl, H_⟩
  rw [show knB 4 [(1, 2), (2, 3)] 3 1 = false from by kernel_rfl]
  refine ⟨_, rfl, ?_⟩
  replace HS : St W (owns []) W8 [many (knE Try.prog 83 3 3 105 98 113 110 k3 4 x4), row (some ⟨g1, 0, none⟩) 2 2 (cf prC ([(1, 2), (2, 3)])) 79 2] := HS.join (F := []) (G := []) H_
  clear H_
  refine ql (.bool true) (by kernel_rfl) (by kernel_rfl) ?_
  refine ql (.bool true) (by kernel_rfl) (by kernel_rfl) ?_
  refine ql (.bool true) (by kernel_rfl) (by kernel_rfl) ?_
  refine ql (.pointer (some ⟨k3, 0, none⟩)) (by kernel_rfl) (by kernel_rfl) ?_
  refine qc (f := 21) (args := #[.pointer (some ⟨k3, 0, none⟩), .int .i64 0, .int .i64 3]) (by kernel_rfl) (R_call #[.pointer (some ⟨k3, 0, none⟩), .int .i64 0, .int .i64 3] Try.func21 (by kernel_rfl) (by kernel_rfl) (by kernel_rfl)) ?_
  refine (khasP k3 4 x4 ([(1, 2), (2, 3)] : List (Int × Int)) 0 3 _ (HS.hasP (i := 0) rfl) hok5 (by omega) (by first | omega | decide)).mono ?_
  rintro e W9 ⟨rfl, H_⟩
  rw [show knB 4 [(1, 2), (2, 3)] 0 3 = true from by kernel_rfl]
  refine ⟨_, rfl, ?_⟩
  replace HS : St W (owns []) W9 [many (knE Try.prog 83 3 3 105 98 113 110 k3 4 x4), row (some ⟨g1, 0, none⟩) 2 2 (cf prC ([(1, 2), (2, 3)])) 79 2] := HS.join (F := []) (G := []) H_
  clear H_
  refine ql (.bool true) (by kernel_rfl) (by kernel_rfl) ?_
  refine ql (.bool true) (by kernel_rfl) (by kernel_rfl) ?_
  refine ql (.pointer (some ⟨k3, 0, none⟩)) (by kernel_rfl) (by kernel_rfl) ?_
  refine qc (f := 41) (args := #[.pointer (some ⟨k3, 0, none⟩)]) (by kernel_rfl) (R_call #[.pointer (some ⟨k3, 0, none⟩)] Try.func41 (by kernel_rfl) (by kernel_rfl) (by kernel_rfl)) ?_
  have hbl : bndL 4 [(1, 2), (2, 3)] = [(1, 2), (1, 3), (2, 3)] := by kernel_rfl
  refine (kbndP k3 4 x4 ([(1, 2), (2, 3)] : List (Int × Int)) _ (HS.hasP (i := 0) rfl) hok5 (by omega) (by first | omega | decide) (by decide) (by decide)).mono ?_
  rintro e W12 ⟨A10, c11, rfl, H_⟩
  rw [hbl] at H_ ⊢
  refine ⟨_, rfl, ?_⟩
  replace HS : St W (owns []) W12 [row A10 (([(1, 2), (1, 3), (2, 3)] : List (Int × Int)).length) c11 (cf prC ([(1, 2), (1, 3), (2, 3)] : List (Int × Int))) 79 2, many (knE Try.prog 83 3 3 105 98 113 110 k3 4 x4), row (some ⟨g1, 0, none⟩) 2 2 (cf prC ([(1, 2), (2, 3)])) 79 2] := HS.join (F := []) (G := [row A10 (([(1, 2), (1, 3), (2, 3)] : List (Int × Int)).length) c11 (cf prC ([(1, 2), (1, 3), (2, 3)] : List (Int × Int))) 79 2]) H_
  clear H_
  refine ql (.agg #[.int .i64 1, .int .i64 2]) (by kernel_rfl) (by kernel_rfl) ?_
  refine ql (.agg #[.int .i64 1, .int .i64 3]) (by kernel_rfl) (by kernel_rfl) ?_
  refine ql (.agg #[.int .i64 2, .int .i64 3]) (by kernel_rfl) (by kernel_rfl) ?_
  refine kl HS 3 [.int .i64 1, .int .i64 2, .int .i64 1, .int .i64 3, .int .i64 2, .int .i64 3] 79 2 (by kernel_rfl) (by kernel_rfl) rfl (by decide) ?_
  intro g13 W14 H_
  replace HS : St W (owns []) W14 [row (some ⟨g13, 0, none⟩) 3 3 (cf prC ([(1, 2), (1, 3), (2, 3)])) 79 2, row A10 (([(1, 2), (1, 3), (2, 3)] : List (Int × Int)).length) c11 (cf prC ([(1, 2), (1, 3), (2, 3)] : List (Int × Int))) 79 2, many (knE Try.prog 83 3 3 105 98 113 110 k3 4 x4), row (some ⟨g1, 0, none⟩) 2 2 (cf prC ([(1, 2), (2, 3)])) 79 2] := H_.cast_ (by kernel_rfl)
  clear H_
  refine qc (f := 40) (args := #[.slice A10 (([(1, 2), (1, 3), (2, 3)] : List (Int × Int)).length) c11, .slice (some ⟨g13, 0, none⟩) 3 3]) (by kernel_rfl) (R_call #[.slice A10 (([(1, 2), (1, 3), (2, 3)] : List (Int × Int)).length) c11, .slice (some ⟨g13, 0, none⟩) 3 3] Try.func40 (by kernel_rfl) (by kernel_rfl) (by kernel_rfl)) ?_
  refine (r17b A10 (some ⟨g13, 0, none⟩) c11 3 ([(1, 2), (1, 3), (2, 3)] : List (Int × Int)) ([(1, 2), (1, 3), (2, 3)] : List (Int × Int)) _ (Rd.row HS (i := 1) rfl) (Rd.row HS (i := 0) rfl) (by decide) (by decide)).mono ?_
  rintro e W15 ⟨rfl, H_⟩
  rw [decide_eq_true rfl]
  refine ⟨_, rfl, ?_⟩
  replace HS : St W (owns []) W15 [row (some ⟨g13, 0, none⟩) 3 3 (cf prC ([(1, 2), (1, 3), (2, 3)])) 79 2, row A10 (([(1, 2), (1, 3), (2, 3)] : List (Int × Int)).length) c11 (cf prC ([(1, 2), (1, 3), (2, 3)] : List (Int × Int))) 79 2, many (knE Try.prog 83 3 3 105 98 113 110 k3 4 x4), row (some ⟨g1, 0, none⟩) 2 2 (cf prC ([(1, 2), (2, 3)])) 79 2] := HS.join (F := []) (G := []) H_
  clear H_
  refine ql (.bool true) (by kernel_rfl) (by kernel_rfl) ?_
  refine ql (.bool true) (by kernel_rfl) (by kernel_rfl) ?_
  refine wpList_nil ?_
  refine x_then ?_
  refine wp_ret ?_
  refine ret_ (.bool true) (by kernel_rfl) ?_
  replace HS := HS.drop1
  replace HS := HS.drop1
  replace HS := HS.drop1
  replace HS := HS.drop1
  exact ⟨rfl, HS⟩

set_option maxRecDepth 100000 in
set_option maxHeartbeats 1000000 in
theorem lDeclAlike (n a b c : Int) (l : List (Int × Int)) (Al : Option Addr) (cl : Nat) (W : World) (hra : Rd W Al (cf prC l)) : Calls Try.prog 4 #[.int .i64 n, .slice Al l.length cl, .int .i64 a, .int .i64 b, .int .i64 c] W fun e W' => e = .returned (.bool true) ∧ St W (owns []) W' [] := by
  have HS : St W (owns []) W [] := St.start W _
  refine calls_enter ((.int .i64 n) :: (.slice Al l.length cl) :: (.int .i64 a) :: (.int .i64 b) :: (.int .i64 c) :: undef :: undef :: undef :: undef :: undef :: undef :: undef :: undef :: undef :: undef :: undef :: undef :: undef :: undef :: undef :: undef :: undef :: undef :: undef :: undef :: undef :: undef :: undef :: undef :: undef :: undef :: undef :: undef :: undef :: undef :: undef :: undef :: undef :: undef :: undef :: undef :: undef :: undef :: undef :: undef :: undef :: undef :: undef :: undef :: undef :: undef :: undef :: undef :: undef :: undef :: undef :: undef :: undef :: undef :: undef :: undef :: undef :: undef :: undef :: undef :: undef :: undef :: undef :: undef :: undef :: undef :: undef :: undef :: undef :: undef :: undef :: undef :: undef :: undef :: undef :: undef :: undef :: undef :: undef :: undef :: undef :: undef :: undef :: undef :: undef :: undef :: undef :: undef :: undef :: undef :: undef :: undef :: undef :: undef :: undef :: undef :: undef :: undef :: undef :: undef :: undef :: undef :: undef :: undef :: undef :: undef :: undef :: undef :: undef :: undef :: undef :: undef :: undef :: undef :: []) Try.func4 rfl (by kernel_rfl) ?_
  refine wp_seq ?_
  refine wp_region_lit ?_
  refine ql (.bool false) (by kernel_rfl) (by kernel_rfl) ?_
  refine wpList_nil ?_
  refine x_then ?_
  refine wp_seq ?_
  refine wp_seq ?_
  refine wp_region_lit ?_
  refine ql (.slice Al l.length cl) (by kernel_rfl) (by kernel_rfl) ?_
  refine ql (.int .i64 (l.length : Int)) (by kernel_rfl) (by kernel_rfl) ?_
  by_cases hc1 : (l.length : Int) > (30 : Int)
  · skip
    refine ql (.bool true) (by kernel_rfl) (R_bool (p := (l.length : Int) > (30 : Int)) (by kernel_rfl) (hc1)) ?_
    refine ql (.bool true) (by kernel_rfl) (by kernel_rfl) ?_
    refine qln (by kernel_rfl) ?_
    refine qln (by kernel_rfl) ?_
    refine ql (.bool true) (by kernel_rfl) (by kernel_rfl) ?_
    refine ql (.bool true) (by kernel_rfl) (by kernel_rfl) ?_
    refine qln (by kernel_rfl) ?_
    refine qln (by kernel_rfl) ?_
    refine ql (.bool true) (by kernel_rfl) (by kernel_rfl) ?_
    refine wpList_nil ?_
    refine x_then ?_
    refine wp_cond_true (by kernel_rfl) ?_
    refine wp_seq ?_
    refine wp_region_lit ?_
    refine qc (f := 18) (args := #[]) (by kernel_rfl) (R_call #[] Try.func18 (by kernel_rfl) (by kernel_rfl) (by kernel_rfl)) ?_
    refine (kawake _).mono ?_
    rintro e W2 ⟨rfl, H_⟩
    refine ⟨_, rfl, ?_⟩
    replace HS : St W (owns []) W2 [] := HS.join (F := []) (G := []) H_
    clear H_
    refine ql (.bool true) (by kernel_rfl) (by kernel_rfl) ?_
    refine wpList_nil ?_
    refine x_then ?_
    refine wp_ret ?_
    refine x_thenR ?_
    refine ret_ (.bool true) (by kernel_rfl) ?_
    exact ⟨rfl, HS⟩
  · skip
    refine ql (.bool false) (by kernel_rfl) (R_nbool (p := (l.length : Int) > (30 : Int)) (by kernel_rfl) (hc1)) ?_
    refine ql (.bool false) (by kernel_rfl) (by kernel_rfl) ?_
    refine ql (.int .i64 n) (by kernel_rfl) (by kernel_rfl) ?_
    by_cases hc3 : n < (0 : Int)
    · skip
      refine ql (.bool true) (by kernel_rfl) (R_bool (p := n < (0 : Int)) (by kernel_rfl) (hc3)) ?_
      refine ql (.bool true) (by kernel_rfl) (by kernel_rfl) ?_
      refine ql (.bool true) (by kernel_rfl) (by kernel_rfl) ?_
      refine qln (by kernel_rfl) ?_
      refine qln (by kernel_rfl) ?_
      refine ql (.bool true) (by kernel_rfl) (by kernel_rfl) ?_
      refine wpList_nil ?_
      refine x_then ?_
      refine wp_cond_true (by kernel_rfl) ?_
      refine wp_seq ?_
      refine wp_region_lit ?_
      refine qc (f := 18) (args := #[]) (by kernel_rfl) (R_call #[] Try.func18 (by kernel_rfl) (by kernel_rfl) (by kernel_rfl)) ?_
      refine (kawake _).mono ?_
      rintro e W4 ⟨rfl, H_⟩
      refine ⟨_, rfl, ?_⟩
      replace HS : St W (owns []) W4 [] := HS.join (F := []) (G := []) H_
      clear H_
      refine ql (.bool true) (by kernel_rfl) (by kernel_rfl) ?_
      refine wpList_nil ?_
      refine x_then ?_
      refine wp_ret ?_
      refine x_thenR ?_
      refine ret_ (.bool true) (by kernel_rfl) ?_
      exact ⟨rfl, HS⟩
    · skip
      refine ql (.bool false) (by kernel_rfl) (R_nbool (p := n < (0 : Int)) (by kernel_rfl) (hc3)) ?_
      refine ql (.bool false) (by kernel_rfl) (by kernel_rfl) ?_
      refine ql (.bool false) (by kernel_rfl) (by kernel_rfl) ?_
      refine ql (.int .i64 n) (by kernel_rfl) (by kernel_rfl) ?_
      by_cases hc5 : n > (12 : Int)
      · skip
        refine ql (.bool true) (by kernel_rfl) (R_bool (p := n > (12 : Int)) (by kernel_rfl) (hc5)) ?_
        refine ql (.bool true) (by kernel_rfl) (by kernel_rfl) ?_
        refine wpList_nil ?_
        refine x_then ?_
        refine wp_cond_true (by kernel_rfl) ?_
        refine wp_seq ?_
        refine wp_region_lit ?_
        refine qc (f := 18) (args := #[]) (by kernel_rfl) (R_call #[] Try.func18 (by kernel_rfl) (by kernel_rfl) (by kernel_rfl)) ?_
        refine (kawake _).mono ?_
        rintro e W6 ⟨rfl, H_⟩
        refine ⟨_, rfl, ?_⟩
        replace HS : St W (owns []) W6 [] := HS.join (F := []) (G := []) H_
        clear H_
        refine ql (.bool true) (by kernel_rfl) (by kernel_rfl) ?_
        refine wpList_nil ?_
        refine x_then ?_
        refine wp_ret ?_
        refine x_thenR ?_
        refine ret_ (.bool true) (by kernel_rfl) ?_
        exact ⟨rfl, HS⟩
      · skip
        refine ql (.bool false) (by kernel_rfl) (R_nbool (p := n > (12 : Int)) (by kernel_rfl) (hc5)) ?_
        refine ql (.bool false) (by kernel_rfl) (by kernel_rfl) ?_
        refine wpList_nil ?_
        refine x_then ?_
        refine wp_cond_false (by kernel_rfl) ?_
        refine wp_skip ?_
        refine x_then ?_
        refine wp_seq ?_
        refine wp_region_lit ?_
        refine ql (.int .i64 n) (by kernel_rfl) (by kernel_rfl) ?_
        refine ql (.slice Al l.length cl) (by kernel_rfl) (by kernel_rfl) ?_
        refine qc (f := 19) (args := #[.int .i64 n, .slice Al l.length cl]) (by kernel_rfl) (R_call #[.int .i64 n, .slice Al l.length cl] Try.func19 (by kernel_rfl) (by kernel_rfl) (by kernel_rfl)) ?_
        refine (kof n Al cl l _ (hra.old0 HS) (by first | omega | decide) (by omega) (by omega)).mono ?_
        rintro e W10 ⟨k7, x8, rfl, H_, hok9⟩
        refine ⟨_, rfl, ?_⟩
        replace HS : St W (owns []) W10 [many (knE Try.prog 83 3 3 105 98 113 110 k7 n x8)] := HS.join (F := []) (G := [many (knE Try.prog 83 3 3 105 98 113 110 k7 n x8)]) H_
        clear H_
        refine ql (.pointer (some ⟨k7, 0, none⟩)) (by kernel_rfl) (by kernel_rfl) ?_
        refine wpList_nil ?_
        refine x_then ?_
        refine wp_seq_cut (fun a' w' => ∃ (u11 : Nat → Value) (k_6 : Nat) (x_6 : KnX) , a' = Fr ((.int .i64 n) :: (.slice Al l.length cl) :: (.int .i64 a) :: (.int .i64 b) :: (.int .i64 c) :: undef :: undef :: undef :: undef :: undef :: ((u11 10)) :: (.pointer (some ⟨k_6, 0, none⟩)) :: undef :: (.slice Al l.length cl) :: (.int .i64 (l.length : Int)) :: (.bool false) :: (.bool false) :: (.int .i64 n) :: (.bool false) :: (.bool false) :: (.bool false) :: (.int .i64 n) :: (.bool false) :: (.bool false) :: undef :: (.int .i64 n) :: (.slice Al l.length cl) :: (.pointer (some ⟨k7, 0, none⟩)) :: ((u11 28)) :: ((u11 29)) :: ((u11 30)) :: ((u11 31)) :: ((u11 32)) :: ((u11 33)) :: ((u11 34)) :: ((u11 35)) :: ((u11 36)) :: ((u11 37)) :: ((u11 38)) :: ((u11 39)) :: ((u11 40)) :: ((u11 41)) :: ((u11 42)) :: ((u11 43)) :: ((u11 44)) :: ((u11 45)) :: ((u11 46)) :: ((u11 47)) :: ((u11 48)) :: ((u11 49)) :: ((u11 50)) :: ((u11 51)) :: ((u11 52)) :: ((u11 53)) :: ((u11 54)) :: ((u11 55)) :: ((u11 56)) :: ((u11 57)) :: ((u11 58)) :: ((u11 59)) :: ((u11 60)) :: ((u11 61)) :: ((u11 62)) :: ((u11 63)) :: ((u11 64)) :: ((u11 65)) :: ((u11 66)) :: ((u11 67)) :: ((u11 68)) :: ((u11 69)) :: ((u11 70)) :: ((u11 71)) :: ((u11 72)) :: ((u11 73)) :: ((u11 74)) :: undef :: undef :: undef :: undef :: undef :: undef :: undef :: undef :: undef :: undef :: undef :: undef :: undef :: undef :: undef :: undef :: undef :: undef :: undef :: undef :: undef :: undef :: undef :: undef :: undef :: undef :: undef :: undef :: undef :: undef :: undef :: undef :: undef :: undef :: undef :: undef :: undef :: undef :: undef :: undef :: undef :: undef :: undef :: undef :: []) ∧ (0 ≤ n ∧ n ≤ 12) ∧ (l.length ≤ 30) ∧ (x_6.ok n l) ∧ St W (owns []) w' [many (knE Try.prog 83 3 3 105 98 113 110 k_6 n x_6)]) ?_ ?_
        · skip
          refine wp_seq ?_
          refine wp_region_lit ?_
          refine ql (.pointer (some ⟨k7, 0, none⟩)) (by kernel_rfl) (by kernel_rfl) ?_
          refine ql (.int .i64 a) (by kernel_rfl) (by kernel_rfl) ?_
          refine ql (.int .i64 b) (by kernel_rfl) (by kernel_rfl) ?_
          refine qc (f := 20) (args := #[.pointer (some ⟨k7, 0, none⟩), .int .i64 a, .int .i64 b]) (by kernel_rfl) (R_call #[.pointer (some ⟨k7, 0, none⟩), .int .i64 a, .int .i64 b] Try.func20 (by kernel_rfl) (by kernel_rfl) (by kernel_rfl)) ?_
          by_cases hK_a_b : knB n l a b = true
          · skip
            by_cases hK_b_a : knB n l b a = true
            · skip
              refine (kalikeP k7 n x8 l a b _ (HS.hasP (i := 0) rfl) hok9 (by omega) (by first | omega | decide)).mono ?_
              rintro e W12 ⟨rfl, H_⟩
              rw [hK_a_b, hK_b_a]
              refine ⟨_, rfl, ?_⟩
              replace HS : St W (owns []) W12 [many (knE Try.prog 83 3 3 105 98 113 110 k7 n x8)] := HS.join (F := []) (G := []) H_
              clear H_
              refine ql (.pointer (some ⟨k7, 0, none⟩)) (by kernel_rfl) (by kernel_rfl) ?_
              refine ql (.int .i64 b) (by kernel_rfl) (by kernel_rfl) ?_
              refine ql (.int .i64 a) (by kernel_rfl) (by kernel_rfl) ?_
              refine qc (f := 20) (args := #[.pointer (some ⟨k7, 0, none⟩), .int .i64 b, .int .i64 a]) (by kernel_rfl) (R_call #[.pointer (some ⟨k7, 0, none⟩), .int .i64 b, .int .i64 a] Try.func20 (by kernel_rfl) (by kernel_rfl) (by kernel_rfl)) ?_
              refine (kalikeP k7 n x8 l b a _ (HS.hasP (i := 0) rfl) hok9 (by omega) (by first | omega | decide)).mono ?_
              rintro e W13 ⟨rfl, H_⟩
              rw [hK_b_a, hK_a_b]
              refine ⟨_, rfl, ?_⟩
              replace HS : St W (owns []) W13 [many (knE Try.prog 83 3 3 105 98 113 110 k7 n x8)] := HS.join (F := []) (G := []) H_
              clear H_
              refine ql (.bool false) (by kernel_rfl) (by kernel_rfl) ?_
              refine ql (.bool false) (by kernel_rfl) (by kernel_rfl) ?_
              refine ql (.pointer (some ⟨k7, 0, none⟩)) (by kernel_rfl) (by kernel_rfl) ?_
              refine ql (.int .i64 a) (by kernel_rfl) (by kernel_rfl) ?_
              refine ql (.int .i64 b) (by kernel_rfl) (by kernel_rfl) ?_
              refine qc (f := 20) (args := #[.pointer (some ⟨k7, 0, none⟩), .int .i64 a, .int .i64 b]) (by kernel_rfl) (R_call #[.pointer (some ⟨k7, 0, none⟩), .int .i64 a, .int .i64 b] Try.func20 (by kernel_rfl) (by kernel_rfl) (by kernel_rfl)) ?_
              refine (kalikeP k7 n x8 l a b _ (HS.hasP (i := 0) rfl) hok9 (by omega) (by first | omega | decide)).mono ?_
              rintro e W14 ⟨rfl, H_⟩
              rw [hK_a_b, hK_b_a]
              refine ⟨_, rfl, ?_⟩
              replace HS : St W (owns []) W14 [many (knE Try.prog 83 3 3 105 98 113 110 k7 n x8)] := HS.join (F := []) (G := []) H_
              clear H_
              refine ql (.bool true) (by kernel_rfl) (by kernel_rfl) ?_
              refine ql (.pointer (some ⟨k7, 0, none⟩)) (by kernel_rfl) (by kernel_rfl) ?_
              refine ql (.int .i64 b) (by kernel_rfl) (by kernel_rfl) ?_
              refine ql (.int .i64 c) (by kernel_rfl) (by kernel_rfl) ?_
              refine qc (f := 20) (args := #[.pointer (some ⟨k7, 0, none⟩), .int .i64 b, .int .i64 c]) (by kernel_rfl) (R_call #[.pointer (some ⟨k7, 0, none⟩), .int .i64 b, .int .i64 c] Try.func20 (by kernel_rfl) (by kernel_rfl) (by kernel_rfl)) ?_
              by_cases hK_b_c : knB n l b c = true
              · skip
                by_cases hK_c_b : knB n l c b = true
                · skip
                  refine (kalikeP k7 n x8 l b c _ (HS.hasP (i := 0) rfl) hok9 (by omega) (by first | omega | decide)).mono ?_
                  rintro e W15 ⟨rfl, H_⟩
                  rw [hK_b_c, hK_c_b]
                  refine ⟨_, rfl, ?_⟩
                  replace HS : St W (owns []) W15 [many (knE Try.prog 83 3 3 105 98 113 110 k7 n x8)] := HS.join (F := []) (G := []) H_
                  clear H_
                  refine ql (.bool true) (by kernel_rfl) (by kernel_rfl) ?_
                  refine ql (.bool true) (by kernel_rfl) (by kernel_rfl) ?_
                  refine ql (.pointer (some ⟨k7, 0, none⟩)) (by kernel_rfl) (by kernel_rfl) ?_
                  refine ql (.int .i64 a) (by kernel_rfl) (by kernel_rfl) ?_
                  refine ql (.int .i64 c) (by kernel_rfl) (by kernel_rfl) ?_
                  refine qc (f := 20) (args := #[.pointer (some ⟨k7, 0, none⟩), .int .i64 a, .int .i64 c]) (by kernel_rfl) (R_call #[.pointer (some ⟨k7, 0, none⟩), .int .i64 a, .int .i64 c] Try.func20 (by kernel_rfl) (by kernel_rfl) (by kernel_rfl)) ?_
                  by_cases hK_a_c : knB n l a c = true
                  · skip
                    by_cases hK_c_a : knB n l c a = true
                    · skip
                      refine (kalikeP k7 n x8 l a c _ (HS.hasP (i := 0) rfl) hok9 (by omega) (by first | omega | decide)).mono ?_
                      rintro e W16 ⟨rfl, H_⟩
                      rw [hK_a_c, hK_c_a]
                      refine ⟨_, rfl, ?_⟩
                      replace HS : St W (owns []) W16 [many (knE Try.prog 83 3 3 105 98 113 110 k7 n x8)] := HS.join (F := []) (G := []) H_
                      clear H_
                      refine ql (.bool false) (by kernel_rfl) (by kernel_rfl) ?_
                      refine ql (.bool false) (by kernel_rfl) (by kernel_rfl) ?_
                      refine ql (.bool false) (by kernel_rfl) (by kernel_rfl) ?_
                      refine ql (.bool false) (by kernel_rfl) (by kernel_rfl) ?_
                      refine ql (.pointer (some ⟨k7, 0, none⟩)) (by kernel_rfl) (by kernel_rfl) ?_
                      refine ql (.int .i64 a) (by kernel_rfl) (by kernel_rfl) ?_
                      refine ql (.int .i64 b) (by kernel_rfl) (by kernel_rfl) ?_
                      refine qc (f := 21) (args := #[.pointer (some ⟨k7, 0, none⟩), .int .i64 a, .int .i64 b]) (by kernel_rfl) (R_call #[.pointer (some ⟨k7, 0, none⟩), .int .i64 a, .int .i64 b] Try.func21 (by kernel_rfl) (by kernel_rfl) (by kernel_rfl)) ?_
                      refine (khasP k7 n x8 l a b _ (HS.hasP (i := 0) rfl) hok9 (by omega) (by first | omega | decide)).mono ?_
                      rintro e W17 ⟨rfl, H_⟩
                      rw [hK_a_b]
                      refine ⟨_, rfl, ?_⟩
                      replace HS : St W (owns []) W17 [many (knE Try.prog 83 3 3 105 98 113 110 k7 n x8)] := HS.join (F := []) (G := []) H_
                      clear H_
                      refine ql (.bool true) (by kernel_rfl) (by kernel_rfl) ?_
                      refine ql (.pointer (some ⟨k7, 0, none⟩)) (by kernel_rfl) (by kernel_rfl) ?_
                      refine ql (.int .i64 b) (by kernel_rfl) (by kernel_rfl) ?_
                      refine ql (.int .i64 c) (by kernel_rfl) (by kernel_rfl) ?_
                      refine qc (f := 21) (args := #[.pointer (some ⟨k7, 0, none⟩), .int .i64 b, .int .i64 c]) (by kernel_rfl) (R_call #[.pointer (some ⟨k7, 0, none⟩), .int .i64 b, .int .i64 c] Try.func21 (by kernel_rfl) (by kernel_rfl) (by kernel_rfl)) ?_
                      refine (khasP k7 n x8 l b c _ (HS.hasP (i := 0) rfl) hok9 (by omega) (by first | omega | decide)).mono ?_
                      rintro e W18 ⟨rfl, H_⟩
                      rw [hK_b_c]
                      refine ⟨_, rfl, ?_⟩
                      replace HS : St W (owns []) W18 [many (knE Try.prog 83 3 3 105 98 113 110 k7 n x8)] := HS.join (F := []) (G := []) H_
                      clear H_
                      refine ql (.bool true) (by kernel_rfl) (by kernel_rfl) ?_
                      refine ql (.bool true) (by kernel_rfl) (by kernel_rfl) ?_
                      refine ql (.pointer (some ⟨k7, 0, none⟩)) (by kernel_rfl) (by kernel_rfl) ?_
                      refine ql (.int .i64 a) (by kernel_rfl) (by kernel_rfl) ?_
                      refine ql (.int .i64 c) (by kernel_rfl) (by kernel_rfl) ?_
                      refine qc (f := 21) (args := #[.pointer (some ⟨k7, 0, none⟩), .int .i64 a, .int .i64 c]) (by kernel_rfl) (R_call #[.pointer (some ⟨k7, 0, none⟩), .int .i64 a, .int .i64 c] Try.func21 (by kernel_rfl) (by kernel_rfl) (by kernel_rfl)) ?_
                      refine (khasP k7 n x8 l a c _ (HS.hasP (i := 0) rfl) hok9 (by omega) (by first | omega | decide)).mono ?_
                      rintro e W19 ⟨rfl, H_⟩
                      rw [hK_a_c]
                      refine ⟨_, rfl, ?_⟩
                      replace HS : St W (owns []) W19 [many (knE Try.prog 83 3 3 105 98 113 110 k7 n x8)] := HS.join (F := []) (G := []) H_
                      clear H_
                      refine ql (.bool false) (by kernel_rfl) (by kernel_rfl) ?_
                      refine ql (.bool false) (by kernel_rfl) (by kernel_rfl) ?_
                      refine ql (.bool false) (by kernel_rfl) (by kernel_rfl) ?_
                      refine wpList_nil ?_
                      refine x_then ?_
                      refine wp_cond_false (by kernel_rfl) ?_
                      refine wp_skip ?_
                      refine x_then ?_
                      exact ⟨(fun k_ : Nat => List.getD ((.int .i64 n) :: (.slice Al l.length cl) :: (.int .i64 a) :: (.int .i64 b) :: (.int .i64 c) :: undef :: undef :: undef :: undef :: undef :: (.bool false) :: (.pointer (some ⟨k7, 0, none⟩)) :: undef :: (.slice Al l.length cl) :: (.int .i64 (l.length : Int)) :: (.bool false) :: (.bool false) :: (.int .i64 n) :: (.bool false) :: (.bool false) :: (.bool false) :: (.int .i64 n) :: (.bool false) :: (.bool false) :: undef :: (.int .i64 n) :: (.slice Al l.length cl) :: (.pointer (some ⟨k7, 0, none⟩)) :: (.pointer (some ⟨k7, 0, none⟩)) :: (.int .i64 a) :: (.int .i64 b) :: (.bool true) :: (.pointer (some ⟨k7, 0, none⟩)) :: (.int .i64 b) :: (.int .i64 a) :: (.bool true) :: (.bool false) :: (.bool false) :: (.pointer (some ⟨k7, 0, none⟩)) :: (.int .i64 a) :: (.int .i64 b) :: (.bool true) :: (.bool true) :: (.pointer (some ⟨k7, 0, none⟩)) :: (.int .i64 b) :: (.int .i64 c) :: (.bool true) :: (.bool true) :: (.bool true) :: (.pointer (some ⟨k7, 0, none⟩)) :: (.int .i64 a) :: (.int .i64 c) :: (.bool true) :: (.bool false) :: (.bool false) :: (.bool false) :: (.bool false) :: (.pointer (some ⟨k7, 0, none⟩)) :: (.int .i64 a) :: (.int .i64 b) :: (.bool true) :: (.bool true) :: (.pointer (some ⟨k7, 0, none⟩)) :: (.int .i64 b) :: (.int .i64 c) :: (.bool true) :: (.bool true) :: (.bool true) :: (.pointer (some ⟨k7, 0, none⟩)) :: (.int .i64 a) :: (.int .i64 c) :: (.bool true) :: (.bool false) :: (.bool false) :: (.bool false) :: undef :: undef :: undef :: undef :: undef :: undef :: undef :: undef :: undef :: undef :: undef :: undef :: undef :: undef :: undef :: undef :: undef :: undef :: undef :: undef :: undef :: undef :: undef :: undef :: undef :: undef :: undef :: undef :: undef :: undef :: undef :: undef :: undef :: undef :: undef :: undef :: undef :: undef :: undef :: undef :: undef :: undef :: undef :: undef :: []) k_ undef), k7, x8, congrArg Fr (by kernel_rfl), ⟨by omega, by omega⟩, (by omega), hok9, HS⟩
                    · skip
                      refine (kalikeP k7 n x8 l a c _ (HS.hasP (i := 0) rfl) hok9 (by omega) (by first | omega | decide)).mono ?_
                      rintro e W20 ⟨rfl, H_⟩
                      rw [hK_a_c, Bool.eq_false_iff.2 hK_c_a]
                      refine ⟨_, rfl, ?_⟩
                      replace HS : St W (owns []) W20 [many (knE Try.prog 83 3 3 105 98 113 110 k7 n x8)] := HS.join (F := []) (G := []) H_
                      clear H_
                      refine ql (.bool true) (by kernel_rfl) (by kernel_rfl) ?_
                      refine ql (.bool true) (by kernel_rfl) (by kernel_rfl) ?_
                      refine ql (.bool true) (by kernel_rfl) (by kernel_rfl) ?_
                      refine ql (.bool true) (by kernel_rfl) (by kernel_rfl) ?_
                      refine qln (by kernel_rfl) ?_
                      refine qln (by kernel_rfl) ?_
                      refine qln (by kernel_rfl) ?_
                      refine qln (by kernel_rfl) ?_
                      refine qln (by kernel_rfl) ?_
                      refine qln (by kernel_rfl) ?_
                      refine qln (by kernel_rfl) ?_
                      refine qln (by kernel_rfl) ?_
                      refine qln (by kernel_rfl) ?_
                      refine qln (by kernel_rfl) ?_
                      refine qln (by kernel_rfl) ?_
                      refine qln (by kernel_rfl) ?_
                      refine qln (by kernel_rfl) ?_
                      refine qln (by kernel_rfl) ?_
                      refine qln (by kernel_rfl) ?_
                      refine qln (by kernel_rfl) ?_
                      refine qln (by kernel_rfl) ?_
                      refine ql (.bool true) (by kernel_rfl) (by kernel_rfl) ?_
                      refine wpList_nil ?_
                      refine x_then ?_
                      refine wp_cond_true (by kernel_rfl) ?_
                      refine wp_seq ?_
                      refine wp_region_lit ?_
                      refine ql (.bool false) (by kernel_rfl) (by kernel_rfl) ?_
                      refine wpList_nil ?_
                      refine x_then ?_
                      refine wp_ret ?_
                      refine x_thenR ?_
                      refine ret_ (.bool false) (by kernel_rfl) ?_
                      exact absurd (knB_trans hK_c_b hK_b_a) hK_c_a
                  · skip
                    by_cases hK_c_a : knB n l c a = true
                    · skip
                      refine (kalikeP k7 n x8 l a c _ (HS.hasP (i := 0) rfl) hok9 (by omega) (by first | omega | decide)).mono ?_
                      rintro e W21 ⟨rfl, H_⟩
                      rw [Bool.eq_false_iff.2 hK_a_c, hK_c_a]
                      refine ⟨_, rfl, ?_⟩
                      replace HS : St W (owns []) W21 [many (knE Try.prog 83 3 3 105 98 113 110 k7 n x8)] := HS.join (F := []) (G := []) H_
                      clear H_
                      refine ql (.bool true) (by kernel_rfl) (by kernel_rfl) ?_
                      refine ql (.bool true) (by kernel_rfl) (by kernel_rfl) ?_
                      refine ql (.bool true) (by kernel_rfl) (by kernel_rfl) ?_
                      refine ql (.bool true) (by kernel_rfl) (by kernel_rfl) ?_
                      refine qln (by kernel_rfl) ?_
                      refine qln (by kernel_rfl) ?_
                      refine qln (by kernel_rfl) ?_
                      refine qln (by kernel_rfl) ?_
                      refine qln (by kernel_rfl) ?_
                      refine qln (by kernel_rfl) ?_
                      refine qln (by kernel_rfl) ?_
                      refine qln (by kernel_rfl) ?_
                      refine qln (by kernel_rfl) ?_
                      refine qln (by kernel_rfl) ?_
                      refine qln (by kernel_rfl) ?_
                      refine qln (by kernel_rfl) ?_
                      refine qln (by kernel_rfl) ?_
                      refine qln (by kernel_rfl) ?_
                      refine qln (by kernel_rfl) ?_
                      refine qln (by kernel_rfl) ?_
                      refine qln (by kernel_rfl) ?_
                      refine ql (.bool true) (by kernel_rfl) (by kernel_rfl) ?_
                      refine wpList_nil ?_
                      refine x_then ?_
                      refine wp_cond_true (by kernel_rfl) ?_
                      refine wp_seq ?_
                      refine wp_region_lit ?_
                      refine ql (.bool false) (by kernel_rfl) (by kernel_rfl) ?_
                      refine wpList_nil ?_
                      refine x_then ?_
                      refine wp_ret ?_
                      refine x_thenR ?_
                      refine ret_ (.bool false) (by kernel_rfl) ?_
                      exact absurd (knB_trans hK_a_b hK_b_c) hK_a_c
                    · skip
                      refine (kalikeP k7 n x8 l a c _ (HS.hasP (i := 0) rfl) hok9 (by omega) (by first | omega | decide)).mono ?_
                      rintro e W22 ⟨rfl, H_⟩
                      rw [Bool.eq_false_iff.2 hK_a_c, Bool.eq_false_iff.2 hK_c_a]
                      refine ⟨_, rfl, ?_⟩
                      replace HS : St W (owns []) W22 [many (knE Try.prog 83 3 3 105 98 113 110 k7 n x8)] := HS.join (F := []) (G := []) H_
                      clear H_
                      refine ql (.bool true) (by kernel_rfl) (by kernel_rfl) ?_
                      refine ql (.bool true) (by kernel_rfl) (by kernel_rfl) ?_
                      refine ql (.bool true) (by kernel_rfl) (by kernel_rfl) ?_
                      refine ql (.bool true) (by kernel_rfl) (by kernel_rfl) ?_
                      refine qln (by kernel_rfl) ?_
                      refine qln (by kernel_rfl) ?_
                      refine qln (by kernel_rfl) ?_
                      refine qln (by kernel_rfl) ?_
                      refine qln (by kernel_rfl) ?_
                      refine qln (by kernel_rfl) ?_
                      refine qln (by kernel_rfl) ?_
                      refine qln (by kernel_rfl) ?_
                      refine qln (by kernel_rfl) ?_
                      refine qln (by kernel_rfl) ?_
                      refine qln (by kernel_rfl) ?_
                      refine qln (by kernel_rfl) ?_
                      refine qln (by kernel_rfl) ?_
                      refine qln (by kernel_rfl) ?_
                      refine qln (by kernel_rfl) ?_
                      refine qln (by kernel_rfl) ?_
                      refine qln (by kernel_rfl) ?_
                      refine ql (.bool true) (by kernel_rfl) (by kernel_rfl) ?_
                      refine wpList_nil ?_
                      refine x_then ?_
                      refine wp_cond_true (by kernel_rfl) ?_
                      refine wp_seq ?_
                      refine wp_region_lit ?_
                      refine ql (.bool false) (by kernel_rfl) (by kernel_rfl) ?_
                      refine wpList_nil ?_
                      refine x_then ?_
                      refine wp_ret ?_
                      refine x_thenR ?_
                      refine ret_ (.bool false) (by kernel_rfl) ?_
                      exact absurd (knB_trans hK_a_b hK_b_c) hK_a_c
                · skip
                  refine (kalikeP k7 n x8 l b c _ (HS.hasP (i := 0) rfl) hok9 (by omega) (by first | omega | decide)).mono ?_
                  rintro e W23 ⟨rfl, H_⟩
                  rw [hK_b_c, Bool.eq_false_iff.2 hK_c_b]
                  refine ⟨_, rfl, ?_⟩
                  replace HS : St W (owns []) W23 [many (knE Try.prog 83 3 3 105 98 113 110 k7 n x8)] := HS.join (F := []) (G := []) H_
                  clear H_
                  refine ql (.bool false) (by kernel_rfl) (by kernel_rfl) ?_
                  refine ql (.bool false) (by kernel_rfl) (by kernel_rfl) ?_
                  refine qln (by kernel_rfl) ?_
                  refine qln (by kernel_rfl) ?_
                  refine qln (by kernel_rfl) ?_
                  refine qln (by kernel_rfl) ?_
                  refine qln (by kernel_rfl) ?_
                  refine ql (.bool false) (by kernel_rfl) (by kernel_rfl) ?_
                  refine ql (.bool false) (by kernel_rfl) (by kernel_rfl) ?_
                  refine ql (.bool false) (by kernel_rfl) (by kernel_rfl) ?_
                  refine ql (.pointer (some ⟨k7, 0, none⟩)) (by kernel_rfl) (by kernel_rfl) ?_
                  refine ql (.int .i64 a) (by kernel_rfl) (by kernel_rfl) ?_
                  refine ql (.int .i64 b) (by kernel_rfl) (by kernel_rfl) ?_
                  refine qc (f := 21) (args := #[.pointer (some ⟨k7, 0, none⟩), .int .i64 a, .int .i64 b]) (by kernel_rfl) (R_call #[.pointer (some ⟨k7, 0, none⟩), .int .i64 a, .int .i64 b] Try.func21 (by kernel_rfl) (by kernel_rfl) (by kernel_rfl)) ?_
                  refine (khasP k7 n x8 l a b _ (HS.hasP (i := 0) rfl) hok9 (by omega) (by first | omega | decide)).mono ?_
                  rintro e W24 ⟨rfl, H_⟩
                  rw [hK_a_b]
                  refine ⟨_, rfl, ?_⟩
                  replace HS : St W (owns []) W24 [many (knE Try.prog 83 3 3 105 98 113 110 k7 n x8)] := HS.join (F := []) (G := []) H_
                  clear H_
                  refine ql (.bool true) (by kernel_rfl) (by kernel_rfl) ?_
                  refine ql (.pointer (some ⟨k7, 0, none⟩)) (by kernel_rfl) (by kernel_rfl) ?_
                  refine ql (.int .i64 b) (by kernel_rfl) (by kernel_rfl) ?_
                  refine ql (.int .i64 c) (by kernel_rfl) (by kernel_rfl) ?_
                  refine qc (f := 21) (args := #[.pointer (some ⟨k7, 0, none⟩), .int .i64 b, .int .i64 c]) (by kernel_rfl) (R_call #[.pointer (some ⟨k7, 0, none⟩), .int .i64 b, .int .i64 c] Try.func21 (by kernel_rfl) (by kernel_rfl) (by kernel_rfl)) ?_
                  refine (khasP k7 n x8 l b c _ (HS.hasP (i := 0) rfl) hok9 (by omega) (by first | omega | decide)).mono ?_
                  rintro e W25 ⟨rfl, H_⟩
                  rw [hK_b_c]
                  refine ⟨_, rfl, ?_⟩
                  replace HS : St W (owns []) W25 [many (knE Try.prog 83 3 3 105 98 113 110 k7 n x8)] := HS.join (F := []) (G := []) H_
                  clear H_
                  refine ql (.bool true) (by kernel_rfl) (by kernel_rfl) ?_
                  refine ql (.bool true) (by kernel_rfl) (by kernel_rfl) ?_
                  refine ql (.pointer (some ⟨k7, 0, none⟩)) (by kernel_rfl) (by kernel_rfl) ?_
                  refine ql (.int .i64 a) (by kernel_rfl) (by kernel_rfl) ?_
                  refine ql (.int .i64 c) (by kernel_rfl) (by kernel_rfl) ?_
                  refine qc (f := 21) (args := #[.pointer (some ⟨k7, 0, none⟩), .int .i64 a, .int .i64 c]) (by kernel_rfl) (R_call #[.pointer (some ⟨k7, 0, none⟩), .int .i64 a, .int .i64 c] Try.func21 (by kernel_rfl) (by kernel_rfl) (by kernel_rfl)) ?_
                  by_cases hK_a_c : knB n l a c = true
                  · skip
                    refine (khasP k7 n x8 l a c _ (HS.hasP (i := 0) rfl) hok9 (by omega) (by first | omega | decide)).mono ?_
                    rintro e W26 ⟨rfl, H_⟩
                    rw [hK_a_c]
                    refine ⟨_, rfl, ?_⟩
                    replace HS : St W (owns []) W26 [many (knE Try.prog 83 3 3 105 98 113 110 k7 n x8)] := HS.join (F := []) (G := []) H_
                    clear H_
                    refine ql (.bool false) (by kernel_rfl) (by kernel_rfl) ?_
                    refine ql (.bool false) (by kernel_rfl) (by kernel_rfl) ?_
                    refine ql (.bool false) (by kernel_rfl) (by kernel_rfl) ?_
                    refine wpList_nil ?_
                    refine x_then ?_
                    refine wp_cond_false (by kernel_rfl) ?_
                    refine wp_skip ?_
                    refine x_then ?_
                    exact ⟨(fun k_ : Nat => List.getD ((.int .i64 n) :: (.slice Al l.length cl) :: (.int .i64 a) :: (.int .i64 b) :: (.int .i64 c) :: undef :: undef :: undef :: undef :: undef :: (.bool false) :: (.pointer (some ⟨k7, 0, none⟩)) :: undef :: (.slice Al l.length cl) :: (.int .i64 (l.length : Int)) :: (.bool false) :: (.bool false) :: (.int .i64 n) :: (.bool false) :: (.bool false) :: (.bool false) :: (.int .i64 n) :: (.bool false) :: (.bool false) :: undef :: (.int .i64 n) :: (.slice Al l.length cl) :: (.pointer (some ⟨k7, 0, none⟩)) :: (.pointer (some ⟨k7, 0, none⟩)) :: (.int .i64 a) :: (.int .i64 b) :: (.bool true) :: (.pointer (some ⟨k7, 0, none⟩)) :: (.int .i64 b) :: (.int .i64 a) :: (.bool true) :: (.bool false) :: (.bool false) :: (.pointer (some ⟨k7, 0, none⟩)) :: (.int .i64 a) :: (.int .i64 b) :: (.bool true) :: (.bool true) :: (.pointer (some ⟨k7, 0, none⟩)) :: (.int .i64 b) :: (.int .i64 c) :: (.bool false) :: (.bool false) :: (.bool false) :: undef :: undef :: undef :: undef :: undef :: (.bool false) :: (.bool false) :: (.bool false) :: (.pointer (some ⟨k7, 0, none⟩)) :: (.int .i64 a) :: (.int .i64 b) :: (.bool true) :: (.bool true) :: (.pointer (some ⟨k7, 0, none⟩)) :: (.int .i64 b) :: (.int .i64 c) :: (.bool true) :: (.bool true) :: (.bool true) :: (.pointer (some ⟨k7, 0, none⟩)) :: (.int .i64 a) :: (.int .i64 c) :: (.bool true) :: (.bool false) :: (.bool false) :: (.bool false) :: undef :: undef :: undef :: undef :: undef :: undef :: undef :: undef :: undef :: undef :: undef :: undef :: undef :: undef :: undef :: undef :: undef :: undef :: undef :: undef :: undef :: undef :: undef :: undef :: undef :: undef :: undef :: undef :: undef :: undef :: undef :: undef :: undef :: undef :: undef :: undef :: undef :: undef :: undef :: undef :: undef :: undef :: undef :: undef :: []) k_ undef), k7, x8, congrArg Fr (by kernel_rfl), ⟨by omega, by omega⟩, (by omega), hok9, HS⟩
                  · skip
                    refine (khasP k7 n x8 l a c _ (HS.hasP (i := 0) rfl) hok9 (by omega) (by first | omega | decide)).mono ?_
                    rintro e W27 ⟨rfl, H_⟩
                    rw [Bool.eq_false_iff.2 hK_a_c]
                    refine ⟨_, rfl, ?_⟩
                    replace HS : St W (owns []) W27 [many (knE Try.prog 83 3 3 105 98 113 110 k7 n x8)] := HS.join (F := []) (G := []) H_
                    clear H_
                    refine ql (.bool true) (by kernel_rfl) (by kernel_rfl) ?_
                    refine ql (.bool true) (by kernel_rfl) (by kernel_rfl) ?_
                    refine ql (.bool true) (by kernel_rfl) (by kernel_rfl) ?_
                    refine wpList_nil ?_
                    refine x_then ?_
                    refine wp_cond_true (by kernel_rfl) ?_
                    refine wp_seq ?_
                    refine wp_region_lit ?_
                    refine ql (.bool false) (by kernel_rfl) (by kernel_rfl) ?_
                    refine wpList_nil ?_
                    refine x_then ?_
                    refine wp_ret ?_
                    refine x_thenR ?_
                    refine ret_ (.bool false) (by kernel_rfl) ?_
                    exact absurd (knB_trans hK_a_b hK_b_c) hK_a_c
              · skip
                by_cases hK_c_b : knB n l c b = true
                · skip
                  refine (kalikeP k7 n x8 l b c _ (HS.hasP (i := 0) rfl) hok9 (by omega) (by first | omega | decide)).mono ?_
                  rintro e W28 ⟨rfl, H_⟩
                  rw [Bool.eq_false_iff.2 hK_b_c, hK_c_b]
                  refine ⟨_, rfl, ?_⟩
                  replace HS : St W (owns []) W28 [many (knE Try.prog 83 3 3 105 98 113 110 k7 n x8)] := HS.join (F := []) (G := []) H_
                  clear H_
                  refine ql (.bool false) (by kernel_rfl) (by kernel_rfl) ?_
                  refine ql (.bool false) (by kernel_rfl) (by kernel_rfl) ?_
                  refine qln (by kernel_rfl) ?_
                  refine qln (by kernel_rfl) ?_
                  refine qln (by kernel_rfl) ?_
                  refine qln (by kernel_rfl) ?_
                  refine qln (by kernel_rfl) ?_
                  refine ql (.bool false) (by kernel_rfl) (by kernel_rfl) ?_
                  refine ql (.bool false) (by kernel_rfl) (by kernel_rfl) ?_
                  refine ql (.bool false) (by kernel_rfl) (by kernel_rfl) ?_
                  refine ql (.pointer (some ⟨k7, 0, none⟩)) (by kernel_rfl) (by kernel_rfl) ?_
                  refine ql (.int .i64 a) (by kernel_rfl) (by kernel_rfl) ?_
                  refine ql (.int .i64 b) (by kernel_rfl) (by kernel_rfl) ?_
                  refine qc (f := 21) (args := #[.pointer (some ⟨k7, 0, none⟩), .int .i64 a, .int .i64 b]) (by kernel_rfl) (R_call #[.pointer (some ⟨k7, 0, none⟩), .int .i64 a, .int .i64 b] Try.func21 (by kernel_rfl) (by kernel_rfl) (by kernel_rfl)) ?_
                  refine (khasP k7 n x8 l a b _ (HS.hasP (i := 0) rfl) hok9 (by omega) (by first | omega | decide)).mono ?_
                  rintro e W29 ⟨rfl, H_⟩
                  rw [hK_a_b]
                  refine ⟨_, rfl, ?_⟩
                  replace HS : St W (owns []) W29 [many (knE Try.prog 83 3 3 105 98 113 110 k7 n x8)] := HS.join (F := []) (G := []) H_
                  clear H_
                  refine ql (.bool true) (by kernel_rfl) (by kernel_rfl) ?_
                  refine ql (.pointer (some ⟨k7, 0, none⟩)) (by kernel_rfl) (by kernel_rfl) ?_
                  refine ql (.int .i64 b) (by kernel_rfl) (by kernel_rfl) ?_
                  refine ql (.int .i64 c) (by kernel_rfl) (by kernel_rfl) ?_
                  refine qc (f := 21) (args := #[.pointer (some ⟨k7, 0, none⟩), .int .i64 b, .int .i64 c]) (by kernel_rfl) (R_call #[.pointer (some ⟨k7, 0, none⟩), .int .i64 b, .int .i64 c] Try.func21 (by kernel_rfl) (by kernel_rfl) (by kernel_rfl)) ?_
                  refine (khasP k7 n x8 l b c _ (HS.hasP (i := 0) rfl) hok9 (by omega) (by first | omega | decide)).mono ?_
                  rintro e W30 ⟨rfl, H_⟩
                  rw [Bool.eq_false_iff.2 hK_b_c]
                  refine ⟨_, rfl, ?_⟩
                  replace HS : St W (owns []) W30 [many (knE Try.prog 83 3 3 105 98 113 110 k7 n x8)] := HS.join (F := []) (G := []) H_
                  clear H_
                  refine ql (.bool false) (by kernel_rfl) (by kernel_rfl) ?_
                  refine ql (.bool false) (by kernel_rfl) (by kernel_rfl) ?_
                  refine qln (by kernel_rfl) ?_
                  refine qln (by kernel_rfl) ?_
                  refine qln (by kernel_rfl) ?_
                  refine qln (by kernel_rfl) ?_
                  refine qln (by kernel_rfl) ?_
                  refine ql (.bool false) (by kernel_rfl) (by kernel_rfl) ?_
                  refine ql (.bool false) (by kernel_rfl) (by kernel_rfl) ?_
                  refine wpList_nil ?_
                  refine x_then ?_
                  refine wp_cond_false (by kernel_rfl) ?_
                  refine wp_skip ?_
                  refine x_then ?_
                  exact ⟨(fun k_ : Nat => List.getD ((.int .i64 n) :: (.slice Al l.length cl) :: (.int .i64 a) :: (.int .i64 b) :: (.int .i64 c) :: undef :: undef :: undef :: undef :: undef :: (.bool false) :: (.pointer (some ⟨k7, 0, none⟩)) :: undef :: (.slice Al l.length cl) :: (.int .i64 (l.length : Int)) :: (.bool false) :: (.bool false) :: (.int .i64 n) :: (.bool false) :: (.bool false) :: (.bool false) :: (.int .i64 n) :: (.bool false) :: (.bool false) :: undef :: (.int .i64 n) :: (.slice Al l.length cl) :: (.pointer (some ⟨k7, 0, none⟩)) :: (.pointer (some ⟨k7, 0, none⟩)) :: (.int .i64 a) :: (.int .i64 b) :: (.bool true) :: (.pointer (some ⟨k7, 0, none⟩)) :: (.int .i64 b) :: (.int .i64 a) :: (.bool true) :: (.bool false) :: (.bool false) :: (.pointer (some ⟨k7, 0, none⟩)) :: (.int .i64 a) :: (.int .i64 b) :: (.bool true) :: (.bool true) :: (.pointer (some ⟨k7, 0, none⟩)) :: (.int .i64 b) :: (.int .i64 c) :: (.bool false) :: (.bool false) :: (.bool false) :: undef :: undef :: undef :: undef :: undef :: (.bool false) :: (.bool false) :: (.bool false) :: (.pointer (some ⟨k7, 0, none⟩)) :: (.int .i64 a) :: (.int .i64 b) :: (.bool true) :: (.bool true) :: (.pointer (some ⟨k7, 0, none⟩)) :: (.int .i64 b) :: (.int .i64 c) :: (.bool false) :: (.bool false) :: (.bool false) :: undef :: undef :: undef :: undef :: undef :: (.bool false) :: (.bool false) :: undef :: undef :: undef :: undef :: undef :: undef :: undef :: undef :: undef :: undef :: undef :: undef :: undef :: undef :: undef :: undef :: undef :: undef :: undef :: undef :: undef :: undef :: undef :: undef :: undef :: undef :: undef :: undef :: undef :: undef :: undef :: undef :: undef :: undef :: undef :: undef :: undef :: undef :: undef :: undef :: undef :: undef :: undef :: undef :: []) k_ undef), k7, x8, congrArg Fr (by kernel_rfl), ⟨by omega, by omega⟩, (by omega), hok9, HS⟩
                · skip
                  refine (kalikeP k7 n x8 l b c _ (HS.hasP (i := 0) rfl) hok9 (by omega) (by first | omega | decide)).mono ?_
                  rintro e W31 ⟨rfl, H_⟩
                  rw [Bool.eq_false_iff.2 hK_b_c, Bool.eq_false_iff.2 hK_c_b]
                  refine ⟨_, rfl, ?_⟩
                  replace HS : St W (owns []) W31 [many (knE Try.prog 83 3 3 105 98 113 110 k7 n x8)] := HS.join (F := []) (G := []) H_
                  clear H_
                  refine ql (.bool false) (by kernel_rfl) (by kernel_rfl) ?_
                  refine ql (.bool false) (by kernel_rfl) (by kernel_rfl) ?_
                  refine qln (by kernel_rfl) ?_
                  refine qln (by kernel_rfl) ?_
                  refine qln (by kernel_rfl) ?_
                  refine qln (by kernel_rfl) ?_
                  refine qln (by kernel_rfl) ?_
                  refine ql (.bool false) (by kernel_rfl) (by kernel_rfl) ?_
                  refine ql (.bool false) (by kernel_rfl) (by kernel_rfl) ?_
                  refine ql (.bool false) (by kernel_rfl) (by kernel_rfl) ?_
                  refine ql (.pointer (some ⟨k7, 0, none⟩)) (by kernel_rfl) (by kernel_rfl) ?_
                  refine ql (.int .i64 a) (by kernel_rfl) (by kernel_rfl) ?_
                  refine ql (.int .i64 b) (by kernel_rfl) (by kernel_rfl) ?_
                  refine qc (f := 21) (args := #[.pointer (some ⟨k7, 0, none⟩), .int .i64 a, .int .i64 b]) (by kernel_rfl) (R_call #[.pointer (some ⟨k7, 0, none⟩), .int .i64 a, .int .i64 b] Try.func21 (by kernel_rfl) (by kernel_rfl) (by kernel_rfl)) ?_
                  refine (khasP k7 n x8 l a b _ (HS.hasP (i := 0) rfl) hok9 (by omega) (by first | omega | decide)).mono ?_
                  rintro e W32 ⟨rfl, H_⟩
                  rw [hK_a_b]
                  refine ⟨_, rfl, ?_⟩
                  replace HS : St W (owns []) W32 [many (knE Try.prog 83 3 3 105 98 113 110 k7 n x8)] := HS.join (F := []) (G := []) H_
                  clear H_
                  refine ql (.bool true) (by kernel_rfl) (by kernel_rfl) ?_
                  refine ql (.pointer (some ⟨k7, 0, none⟩)) (by kernel_rfl) (by kernel_rfl) ?_
                  refine ql (.int .i64 b) (by kernel_rfl) (by kernel_rfl) ?_
                  refine ql (.int .i64 c) (by kernel_rfl) (by kernel_rfl) ?_
                  refine qc (f := 21) (args := #[.pointer (some ⟨k7, 0, none⟩), .int .i64 b, .int .i64 c]) (by kernel_rfl) (R_call #[.pointer (some ⟨k7, 0, none⟩), .int .i64 b, .int .i64 c] Try.func21 (by kernel_rfl) (by kernel_rfl) (by kernel_rfl)) ?_
                  refine (khasP k7 n x8 l b c _ (HS.hasP (i := 0) rfl) hok9 (by omega) (by first | omega | decide)).mono ?_
                  rintro e W33 ⟨rfl, H_⟩
                  rw [Bool.eq_false_iff.2 hK_b_c]
                  refine ⟨_, rfl, ?_⟩
                  replace HS : St W (owns []) W33 [many (knE Try.prog 83 3 3 105 98 113 110 k7 n x8)] := HS.join (F := []) (G := []) H_
                  clear H_
                  refine ql (.bool false) (by kernel_rfl) (by kernel_rfl) ?_
                  refine ql (.bool false) (by kernel_rfl) (by kernel_rfl) ?_
                  refine qln (by kernel_rfl) ?_
                  refine qln (by kernel_rfl) ?_
                  refine qln (by kernel_rfl) ?_
                  refine qln (by kernel_rfl) ?_
                  refine qln (by kernel_rfl) ?_
                  refine ql (.bool false) (by kernel_rfl) (by kernel_rfl) ?_
                  refine ql (.bool false) (by kernel_rfl) (by kernel_rfl) ?_
                  refine wpList_nil ?_
                  refine x_then ?_
                  refine wp_cond_false (by kernel_rfl) ?_
                  refine wp_skip ?_
                  refine x_then ?_
                  exact ⟨(fun k_ : Nat => List.getD ((.int .i64 n) :: (.slice Al l.length cl) :: (.int .i64 a) :: (.int .i64 b) :: (.int .i64 c) :: undef :: undef :: undef :: undef :: undef :: (.bool false) :: (.pointer (some ⟨k7, 0, none⟩)) :: undef :: (.slice Al l.length cl) :: (.int .i64 (l.length : Int)) :: (.bool false) :: (.bool false) :: (.int .i64 n) :: (.bool false) :: (.bool false) :: (.bool false) :: (.int .i64 n) :: (.bool false) :: (.bool false) :: undef :: (.int .i64 n) :: (.slice Al l.length cl) :: (.pointer (some ⟨k7, 0, none⟩)) :: (.pointer (some ⟨k7, 0, none⟩)) :: (.int .i64 a) :: (.int .i64 b) :: (.bool true) :: (.pointer (some ⟨k7, 0, none⟩)) :: (.int .i64 b) :: (.int .i64 a) :: (.bool true) :: (.bool false) :: (.bool false) :: (.pointer (some ⟨k7, 0, none⟩)) :: (.int .i64 a) :: (.int .i64 b) :: (.bool true) :: (.bool true) :: (.pointer (some ⟨k7, 0, none⟩)) :: (.int .i64 b) :: (.int .i64 c) :: (.bool false) :: (.bool false) :: (.bool false) :: undef :: undef :: undef :: undef :: undef :: (.bool false) :: (.bool false) :: (.bool false) :: (.pointer (some ⟨k7, 0, none⟩)) :: (.int .i64 a) :: (.int .i64 b) :: (.bool true) :: (.bool true) :: (.pointer (some ⟨k7, 0, none⟩)) :: (.int .i64 b) :: (.int .i64 c) :: (.bool false) :: (.bool false) :: (.bool false) :: undef :: undef :: undef :: undef :: undef :: (.bool false) :: (.bool false) :: undef :: undef :: undef :: undef :: undef :: undef :: undef :: undef :: undef :: undef :: undef :: undef :: undef :: undef :: undef :: undef :: undef :: undef :: undef :: undef :: undef :: undef :: undef :: undef :: undef :: undef :: undef :: undef :: undef :: undef :: undef :: undef :: undef :: undef :: undef :: undef :: undef :: undef :: undef :: undef :: undef :: undef :: undef :: undef :: []) k_ undef), k7, x8, congrArg Fr (by kernel_rfl), ⟨by omega, by omega⟩, (by omega), hok9, HS⟩
            · skip
              refine (kalikeP k7 n x8 l a b _ (HS.hasP (i := 0) rfl) hok9 (by omega) (by first | omega | decide)).mono ?_
              rintro e W34 ⟨rfl, H_⟩
              rw [hK_a_b, Bool.eq_false_iff.2 hK_b_a]
              refine ⟨_, rfl, ?_⟩
              replace HS : St W (owns []) W34 [many (knE Try.prog 83 3 3 105 98 113 110 k7 n x8)] := HS.join (F := []) (G := []) H_
              clear H_
              refine ql (.pointer (some ⟨k7, 0, none⟩)) (by kernel_rfl) (by kernel_rfl) ?_
              refine ql (.int .i64 b) (by kernel_rfl) (by kernel_rfl) ?_
              refine ql (.int .i64 a) (by kernel_rfl) (by kernel_rfl) ?_
              refine qc (f := 20) (args := #[.pointer (some ⟨k7, 0, none⟩), .int .i64 b, .int .i64 a]) (by kernel_rfl) (R_call #[.pointer (some ⟨k7, 0, none⟩), .int .i64 b, .int .i64 a] Try.func20 (by kernel_rfl) (by kernel_rfl) (by kernel_rfl)) ?_
              refine (kalikeP k7 n x8 l b a _ (HS.hasP (i := 0) rfl) hok9 (by omega) (by first | omega | decide)).mono ?_
              rintro e W35 ⟨rfl, H_⟩
              rw [Bool.eq_false_iff.2 hK_b_a, hK_a_b]
              refine ⟨_, rfl, ?_⟩
              replace HS : St W (owns []) W35 [many (knE Try.prog 83 3 3 105 98 113 110 k7 n x8)] := HS.join (F := []) (G := []) H_
              clear H_
              refine ql (.bool false) (by kernel_rfl) (by kernel_rfl) ?_
              refine ql (.bool false) (by kernel_rfl) (by kernel_rfl) ?_
              refine ql (.pointer (some ⟨k7, 0, none⟩)) (by kernel_rfl) (by kernel_rfl) ?_
              refine ql (.int .i64 a) (by kernel_rfl) (by kernel_rfl) ?_
              refine ql (.int .i64 b) (by kernel_rfl) (by kernel_rfl) ?_
              refine qc (f := 20) (args := #[.pointer (some ⟨k7, 0, none⟩), .int .i64 a, .int .i64 b]) (by kernel_rfl) (R_call #[.pointer (some ⟨k7, 0, none⟩), .int .i64 a, .int .i64 b] Try.func20 (by kernel_rfl) (by kernel_rfl) (by kernel_rfl)) ?_
              refine (kalikeP k7 n x8 l a b _ (HS.hasP (i := 0) rfl) hok9 (by omega) (by first | omega | decide)).mono ?_
              rintro e W36 ⟨rfl, H_⟩
              rw [hK_a_b, Bool.eq_false_iff.2 hK_b_a]
              refine ⟨_, rfl, ?_⟩
              replace HS : St W (owns []) W36 [many (knE Try.prog 83 3 3 105 98 113 110 k7 n x8)] := HS.join (F := []) (G := []) H_
              clear H_
              refine ql (.bool false) (by kernel_rfl) (by kernel_rfl) ?_
              refine qln (by kernel_rfl) ?_
              refine qln (by kernel_rfl) ?_
              refine qln (by kernel_rfl) ?_
              refine qln (by kernel_rfl) ?_
              refine ql (.bool false) (by kernel_rfl) (by kernel_rfl) ?_
              refine ql (.bool false) (by kernel_rfl) (by kernel_rfl) ?_
              refine qln (by kernel_rfl) ?_
              refine qln (by kernel_rfl) ?_
              refine qln (by kernel_rfl) ?_
              refine qln (by kernel_rfl) ?_
              refine qln (by kernel_rfl) ?_
              refine ql (.bool false) (by kernel_rfl) (by kernel_rfl) ?_
              refine ql (.bool false) (by kernel_rfl) (by kernel_rfl) ?_
              refine ql (.bool false) (by kernel_rfl) (by kernel_rfl) ?_
              refine ql (.pointer (some ⟨k7, 0, none⟩)) (by kernel_rfl) (by kernel_rfl) ?_
              refine ql (.int .i64 a) (by kernel_rfl) (by kernel_rfl) ?_
              refine ql (.int .i64 b) (by kernel_rfl) (by kernel_rfl) ?_
              refine qc (f := 21) (args := #[.pointer (some ⟨k7, 0, none⟩), .int .i64 a, .int .i64 b]) (by kernel_rfl) (R_call #[.pointer (some ⟨k7, 0, none⟩), .int .i64 a, .int .i64 b] Try.func21 (by kernel_rfl) (by kernel_rfl) (by kernel_rfl)) ?_
              refine (khasP k7 n x8 l a b _ (HS.hasP (i := 0) rfl) hok9 (by omega) (by first | omega | decide)).mono ?_
              rintro e W37 ⟨rfl, H_⟩
              rw [hK_a_b]
              refine ⟨_, rfl, ?_⟩
              replace HS : St W (owns []) W37 [many (knE Try.prog 83 3 3 105 98 113 110 k7 n x8)] := HS.join (F := []) (G := []) H_
              clear H_
              refine ql (.bool true) (by kernel_rfl) (by kernel_rfl) ?_
              refine ql (.pointer (some ⟨k7, 0, none⟩)) (by kernel_rfl) (by kernel_rfl) ?_
              refine ql (.int .i64 b) (by kernel_rfl) (by kernel_rfl) ?_
              refine ql (.int .i64 c) (by kernel_rfl) (by kernel_rfl) ?_
              refine qc (f := 21) (args := #[.pointer (some ⟨k7, 0, none⟩), .int .i64 b, .int .i64 c]) (by kernel_rfl) (R_call #[.pointer (some ⟨k7, 0, none⟩), .int .i64 b, .int .i64 c] Try.func21 (by kernel_rfl) (by kernel_rfl) (by kernel_rfl)) ?_
              by_cases hK_b_c : knB n l b c = true
              · skip
                refine (khasP k7 n x8 l b c _ (HS.hasP (i := 0) rfl) hok9 (by omega) (by first | omega | decide)).mono ?_
                rintro e W38 ⟨rfl, H_⟩
                rw [hK_b_c]
                refine ⟨_, rfl, ?_⟩
                replace HS : St W (owns []) W38 [many (knE Try.prog 83 3 3 105 98 113 110 k7 n x8)] := HS.join (F := []) (G := []) H_
                clear H_
                refine ql (.bool true) (by kernel_rfl) (by kernel_rfl) ?_
                refine ql (.bool true) (by kernel_rfl) (by kernel_rfl) ?_
                refine ql (.pointer (some ⟨k7, 0, none⟩)) (by kernel_rfl) (by kernel_rfl) ?_
                refine ql (.int .i64 a) (by kernel_rfl) (by kernel_rfl) ?_
                refine ql (.int .i64 c) (by kernel_rfl) (by kernel_rfl) ?_
                refine qc (f := 21) (args := #[.pointer (some ⟨k7, 0, none⟩), .int .i64 a, .int .i64 c]) (by kernel_rfl) (R_call #[.pointer (some ⟨k7, 0, none⟩), .int .i64 a, .int .i64 c] Try.func21 (by kernel_rfl) (by kernel_rfl) (by kernel_rfl)) ?_
                by_cases hK_a_c : knB n l a c = true
                · skip
                  refine (khasP k7 n x8 l a c _ (HS.hasP (i := 0) rfl) hok9 (by omega) (by first | omega | decide)).mono ?_
                  rintro e W39 ⟨rfl, H_⟩
                  rw [hK_a_c]
                  refine ⟨_, rfl, ?_⟩
                  replace HS : St W (owns []) W39 [many (knE Try.prog 83 3 3 105 98 113 110 k7 n x8)] := HS.join (F := []) (G := []) H_
                  clear H_
                  refine ql (.bool false) (by kernel_rfl) (by kernel_rfl) ?_
                  refine ql (.bool false) (by kernel_rfl) (by kernel_rfl) ?_
                  refine ql (.bool false) (by kernel_rfl) (by kernel_rfl) ?_
                  refine wpList_nil ?_
                  refine x_then ?_
                  refine wp_cond_false (by kernel_rfl) ?_
                  refine wp_skip ?_
                  refine x_then ?_
                  exact ⟨(fun k_ : Nat => List.getD ((.int .i64 n) :: (.slice Al l.length cl) :: (.int .i64 a) :: (.int .i64 b) :: (.int .i64 c) :: undef :: undef :: undef :: undef :: undef :: (.bool false) :: (.pointer (some ⟨k7, 0, none⟩)) :: undef :: (.slice Al l.length cl) :: (.int .i64 (l.length : Int)) :: (.bool false) :: (.bool false) :: (.int .i64 n) :: (.bool false) :: (.bool false) :: (.bool false) :: (.int .i64 n) :: (.bool false) :: (.bool false) :: undef :: (.int .i64 n) :: (.slice Al l.length cl) :: (.pointer (some ⟨k7, 0, none⟩)) :: (.pointer (some ⟨k7, 0, none⟩)) :: (.int .i64 a) :: (.int .i64 b) :: (.bool false) :: (.pointer (some ⟨k7, 0, none⟩)) :: (.int .i64 b) :: (.int .i64 a) :: (.bool false) :: (.bool false) :: (.bool false) :: (.pointer (some ⟨k7, 0, none⟩)) :: (.int .i64 a) :: (.int .i64 b) :: (.bool false) :: (.bool false) :: undef :: undef :: undef :: undef :: (.bool false) :: (.bool false) :: undef :: undef :: undef :: undef :: undef :: (.bool false) :: (.bool false) :: (.bool false) :: (.pointer (some ⟨k7, 0, none⟩)) :: (.int .i64 a) :: (.int .i64 b) :: (.bool true) :: (.bool true) :: (.pointer (some ⟨k7, 0, none⟩)) :: (.int .i64 b) :: (.int .i64 c) :: (.bool true) :: (.bool true) :: (.bool true) :: (.pointer (some ⟨k7, 0, none⟩)) :: (.int .i64 a) :: (.int .i64 c) :: (.bool true) :: (.bool false) :: (.bool false) :: (.bool false) :: undef :: undef :: undef :: undef :: undef :: undef :: undef :: undef :: undef :: undef :: undef :: undef :: undef :: undef :: undef :: undef :: undef :: undef :: undef :: undef :: undef :: undef :: undef :: undef :: undef :: undef :: undef :: undef :: undef :: undef :: undef :: undef :: undef :: undef :: undef :: undef :: undef :: undef :: undef :: undef :: undef :: undef :: undef :: undef :: []) k_ undef), k7, x8, congrArg Fr (by kernel_rfl), ⟨by omega, by omega⟩, (by omega), hok9, HS⟩
                · skip
                  refine (khasP k7 n x8 l a c _ (HS.hasP (i := 0) rfl) hok9 (by omega) (by first | omega | decide)).mono ?_
                  rintro e W40 ⟨rfl, H_⟩
                  rw [Bool.eq_false_iff.2 hK_a_c]
                  refine ⟨_, rfl, ?_⟩
                  replace HS : St W (owns []) W40 [many (knE Try.prog 83 3 3 105 98 113 110 k7 n x8)] := HS.join (F := []) (G := []) H_
                  clear H_
                  refine ql (.bool true) (by kernel_rfl) (by kernel_rfl) ?_
                  refine ql (.bool true) (by kernel_rfl) (by kernel_rfl) ?_
                  refine ql (.bool true) (by kernel_rfl) (by kernel_rfl) ?_
                  refine wpList_nil ?_
                  refine x_then ?_
                  refine wp_cond_true (by kernel_rfl) ?_
                  refine wp_seq ?_
                  refine wp_region_lit ?_
                  refine ql (.bool false) (by kernel_rfl) (by kernel_rfl) ?_
                  refine wpList_nil ?_
                  refine x_then ?_
                  refine wp_ret ?_
                  refine x_thenR ?_
                  refine ret_ (.bool false) (by kernel_rfl) ?_
                  exact absurd (knB_trans hK_a_b hK_b_c) hK_a_c
              · skip
                refine (khasP k7 n x8 l b c _ (HS.hasP (i := 0) rfl) hok9 (by omega) (by first | omega | decide)).mono ?_
                rintro e W41 ⟨rfl, H_⟩
                rw [Bool.eq_false_iff.2 hK_b_c]
                refine ⟨_, rfl, ?_⟩
                replace HS : St W (owns []) W41 [many (knE Try.prog 83 3 3 105 98 113 110 k7 n x8)] := HS.join (F := []) (G := []) H_
                clear H_
                refine ql (.bool false) (by kernel_rfl) (by kernel_rfl) ?_
                refine ql (.bool false) (by kernel_rfl) (by kernel_rfl) ?_
                refine qln (by kernel_rfl) ?_
                refine qln (by kernel_rfl) ?_
                refine qln (by kernel_rfl) ?_
                refine qln (by kernel_rfl) ?_
                refine qln (by kernel_rfl) ?_
                refine ql (.bool false) (by kernel_rfl) (by kernel_rfl) ?_
                refine ql (.bool false) (by kernel_rfl) (by kernel_rfl) ?_
                refine wpList_nil ?_
                refine x_then ?_
                refine wp_cond_false (by kernel_rfl) ?_
                refine wp_skip ?_
                refine x_then ?_
                exact ⟨(fun k_ : Nat => List.getD ((.int .i64 n) :: (.slice Al l.length cl) :: (.int .i64 a) :: (.int .i64 b) :: (.int .i64 c) :: undef :: undef :: undef :: undef :: undef :: (.bool false) :: (.pointer (some ⟨k7, 0, none⟩)) :: undef :: (.slice Al l.length cl) :: (.int .i64 (l.length : Int)) :: (.bool false) :: (.bool false) :: (.int .i64 n) :: (.bool false) :: (.bool false) :: (.bool false) :: (.int .i64 n) :: (.bool false) :: (.bool false) :: undef :: (.int .i64 n) :: (.slice Al l.length cl) :: (.pointer (some ⟨k7, 0, none⟩)) :: (.pointer (some ⟨k7, 0, none⟩)) :: (.int .i64 a) :: (.int .i64 b) :: (.bool false) :: (.pointer (some ⟨k7, 0, none⟩)) :: (.int .i64 b) :: (.int .i64 a) :: (.bool false) :: (.bool false) :: (.bool false) :: (.pointer (some ⟨k7, 0, none⟩)) :: (.int .i64 a) :: (.int .i64 b) :: (.bool false) :: (.bool false) :: undef :: undef :: undef :: undef :: (.bool false) :: (.bool false) :: undef :: undef :: undef :: undef :: undef :: (.bool false) :: (.bool false) :: (.bool false) :: (.pointer (some ⟨k7, 0, none⟩)) :: (.int .i64 a) :: (.int .i64 b) :: (.bool true) :: (.bool true) :: (.pointer (some ⟨k7, 0, none⟩)) :: (.int .i64 b) :: (.int .i64 c) :: (.bool false) :: (.bool false) :: (.bool false) :: undef :: undef :: undef :: undef :: undef :: (.bool false) :: (.bool false) :: undef :: undef :: undef :: undef :: undef :: undef :: undef :: undef :: undef :: undef :: undef :: undef :: undef :: undef :: undef :: undef :: undef :: undef :: undef :: undef :: undef :: undef :: undef :: undef :: undef :: undef :: undef :: undef :: undef :: undef :: undef :: undef :: undef :: undef :: undef :: undef :: undef :: undef :: undef :: undef :: undef :: undef :: undef :: undef :: []) k_ undef), k7, x8, congrArg Fr (by kernel_rfl), ⟨by omega, by omega⟩, (by omega), hok9, HS⟩
          · skip
            by_cases hK_b_a : knB n l b a = true
            · skip
              refine (kalikeP k7 n x8 l a b _ (HS.hasP (i := 0) rfl) hok9 (by omega) (by first | omega | decide)).mono ?_
              rintro e W42 ⟨rfl, H_⟩
              rw [Bool.eq_false_iff.2 hK_a_b, hK_b_a]
              refine ⟨_, rfl, ?_⟩
              replace HS : St W (owns []) W42 [many (knE Try.prog 83 3 3 105 98 113 110 k7 n x8)] := HS.join (F := []) (G := []) H_
              clear H_
              refine ql (.pointer (some ⟨k7, 0, none⟩)) (by kernel_rfl) (by kernel_rfl) ?_
              refine ql (.int .i64 b) (by kernel_rfl) (by kernel_rfl) ?_
              refine ql (.int .i64 a) (by kernel_rfl) (by kernel_rfl) ?_
              refine qc (f := 20) (args := #[.pointer (some ⟨k7, 0, none⟩), .int .i64 b, .int .i64 a]) (by kernel_rfl) (R_call #[.pointer (some ⟨k7, 0, none⟩), .int .i64 b, .int .i64 a] Try.func20 (by kernel_rfl) (by kernel_rfl) (by kernel_rfl)) ?_
              refine (kalikeP k7 n x8 l b a _ (HS.hasP (i := 0) rfl) hok9 (by omega) (by first | omega | decide)).mono ?_
              rintro e W43 ⟨rfl, H_⟩
              rw [hK_b_a, Bool.eq_false_iff.2 hK_a_b]
              refine ⟨_, rfl, ?_⟩
              replace HS : St W (owns []) W43 [many (knE Try.prog 83 3 3 105 98 113 110 k7 n x8)] := HS.join (F := []) (G := []) H_
              clear H_
              refine ql (.bool false) (by kernel_rfl) (by kernel_rfl) ?_
              refine ql (.bool false) (by kernel_rfl) (by kernel_rfl) ?_
              refine ql (.pointer (some ⟨k7, 0, none⟩)) (by kernel_rfl) (by kernel_rfl) ?_
              refine ql (.int .i64 a) (by kernel_rfl) (by kernel_rfl) ?_
              refine ql (.int .i64 b) (by kernel_rfl) (by kernel_rfl) ?_
              refine qc (f := 20) (args := #[.pointer (some ⟨k7, 0, none⟩), .int .i64 a, .int .i64 b]) (by kernel_rfl) (R_call #[.pointer (some ⟨k7, 0, none⟩), .int .i64 a, .int .i64 b] Try.func20 (by kernel_rfl) (by kernel_rfl) (by kernel_rfl)) ?_
              refine (kalikeP k7 n x8 l a b _ (HS.hasP (i := 0) rfl) hok9 (by omega) (by first | omega | decide)).mono ?_
              rintro e W44 ⟨rfl, H_⟩
              rw [Bool.eq_false_iff.2 hK_a_b, hK_b_a]
              refine ⟨_, rfl, ?_⟩
              replace HS : St W (owns []) W44 [many (knE Try.prog 83 3 3 105 98 113 110 k7 n x8)] := HS.join (F := []) (G := []) H_
              clear H_
              refine ql (.bool false) (by kernel_rfl) (by kernel_rfl) ?_
              refine qln (by kernel_rfl) ?_
              refine qln (by kernel_rfl) ?_
              refine qln (by kernel_rfl) ?_
              refine qln (by kernel_rfl) ?_
              refine ql (.bool false) (by kernel_rfl) (by kernel_rfl) ?_
              refine ql (.bool false) (by kernel_rfl) (by kernel_rfl) ?_
              refine qln (by kernel_rfl) ?_
              refine qln (by kernel_rfl) ?_
              refine qln (by kernel_rfl) ?_
              refine qln (by kernel_rfl) ?_
              refine qln (by kernel_rfl) ?_
              refine ql (.bool false) (by kernel_rfl) (by kernel_rfl) ?_
              refine ql (.bool false) (by kernel_rfl) (by kernel_rfl) ?_
              refine ql (.bool false) (by kernel_rfl) (by kernel_rfl) ?_
              refine ql (.pointer (some ⟨k7, 0, none⟩)) (by kernel_rfl) (by kernel_rfl) ?_
              refine ql (.int .i64 a) (by kernel_rfl) (by kernel_rfl) ?_
              refine ql (.int .i64 b) (by kernel_rfl) (by kernel_rfl) ?_
              refine qc (f := 21) (args := #[.pointer (some ⟨k7, 0, none⟩), .int .i64 a, .int .i64 b]) (by kernel_rfl) (R_call #[.pointer (some ⟨k7, 0, none⟩), .int .i64 a, .int .i64 b] Try.func21 (by kernel_rfl) (by kernel_rfl) (by kernel_rfl)) ?_
              refine (khasP k7 n x8 l a b _ (HS.hasP (i := 0) rfl) hok9 (by omega) (by first | omega | decide)).mono ?_
              rintro e W45 ⟨rfl, H_⟩
              rw [Bool.eq_false_iff.2 hK_a_b]
              refine ⟨_, rfl, ?_⟩
              replace HS : St W (owns []) W45 [many (knE Try.prog 83 3 3 105 98 113 110 k7 n x8)] := HS.join (F := []) (G := []) H_
              clear H_
              refine ql (.bool false) (by kernel_rfl) (by kernel_rfl) ?_
              refine qln (by kernel_rfl) ?_
              refine qln (by kernel_rfl) ?_
              refine qln (by kernel_rfl) ?_
              refine qln (by kernel_rfl) ?_
              refine ql (.bool false) (by kernel_rfl) (by kernel_rfl) ?_
              refine ql (.bool false) (by kernel_rfl) (by kernel_rfl) ?_
              refine qln (by kernel_rfl) ?_
              refine qln (by kernel_rfl) ?_
              refine qln (by kernel_rfl) ?_
              refine qln (by kernel_rfl) ?_
              refine qln (by kernel_rfl) ?_
              refine ql (.bool false) (by kernel_rfl) (by kernel_rfl) ?_
              refine ql (.bool false) (by kernel_rfl) (by kernel_rfl) ?_
              refine wpList_nil ?_
              refine x_then ?_
              refine wp_cond_false (by kernel_rfl) ?_
              refine wp_skip ?_
              refine x_then ?_
              exact ⟨(fun k_ : Nat => List.getD ((.int .i64 n) :: (.slice Al l.length cl) :: (.int .i64 a) :: (.int .i64 b) :: (.int .i64 c) :: undef :: undef :: undef :: undef :: undef :: (.bool false) :: (.pointer (some ⟨k7, 0, none⟩)) :: undef :: (.slice Al l.length cl) :: (.int .i64 (l.length : Int)) :: (.bool false) :: (.bool false) :: (.int .i64 n) :: (.bool false) :: (.bool false) :: (.bool false) :: (.int .i64 n) :: (.bool false) :: (.bool false) :: undef :: (.int .i64 n) :: (.slice Al l.length cl) :: (.pointer (some ⟨k7, 0, none⟩)) :: (.pointer (some ⟨k7, 0, none⟩)) :: (.int .i64 a) :: (.int .i64 b) :: (.bool false) :: (.pointer (some ⟨k7, 0, none⟩)) :: (.int .i64 b) :: (.int .i64 a) :: (.bool false) :: (.bool false) :: (.bool false) :: (.pointer (some ⟨k7, 0, none⟩)) :: (.int .i64 a) :: (.int .i64 b) :: (.bool false) :: (.bool false) :: undef :: undef :: undef :: undef :: (.bool false) :: (.bool false) :: undef :: undef :: undef :: undef :: undef :: (.bool false) :: (.bool false) :: (.bool false) :: (.pointer (some ⟨k7, 0, none⟩)) :: (.int .i64 a) :: (.int .i64 b) :: (.bool false) :: (.bool false) :: undef :: undef :: undef :: undef :: (.bool false) :: (.bool false) :: undef :: undef :: undef :: undef :: undef :: (.bool false) :: (.bool false) :: undef :: undef :: undef :: undef :: undef :: undef :: undef :: undef :: undef :: undef :: undef :: undef :: undef :: undef :: undef :: undef :: undef :: undef :: undef :: undef :: undef :: undef :: undef :: undef :: undef :: undef :: undef :: undef :: undef :: undef :: undef :: undef :: undef :: undef :: undef :: undef :: undef :: undef :: undef :: undef :: undef :: undef :: undef :: undef :: []) k_ undef), k7, x8, congrArg Fr (by kernel_rfl), ⟨by omega, by omega⟩, (by omega), hok9, HS⟩
            · skip
              refine (kalikeP k7 n x8 l a b _ (HS.hasP (i := 0) rfl) hok9 (by omega) (by first | omega | decide)).mono ?_
              rintro e W46 ⟨rfl, H_⟩
              rw [Bool.eq_false_iff.2 hK_a_b, Bool.eq_false_iff.2 hK_b_a]
              refine ⟨_, rfl, ?_⟩
              replace HS : St W (owns []) W46 [many (knE Try.prog 83 3 3 105 98 113 110 k7 n x8)] := HS.join (F := []) (G := []) H_
              clear H_
              refine ql (.pointer (some ⟨k7, 0, none⟩)) (by kernel_rfl) (by kernel_rfl) ?_
              refine ql (.int .i64 b) (by kernel_rfl) (by kernel_rfl) ?_
              refine ql (.int .i64 a) (by kernel_rfl) (by kernel_rfl) ?_
              refine qc (f := 20) (args := #[.pointer (some ⟨k7, 0, none⟩), .int .i64 b, .int .i64 a]) (by kernel_rfl) (R_call #[.pointer (some ⟨k7, 0, none⟩), .int .i64 b, .int .i64 a] Try.func20 (by kernel_rfl) (by kernel_rfl) (by kernel_rfl)) ?_
              refine (kalikeP k7 n x8 l b a _ (HS.hasP (i := 0) rfl) hok9 (by omega) (by first | omega | decide)).mono ?_
              rintro e W47 ⟨rfl, H_⟩
              rw [Bool.eq_false_iff.2 hK_b_a, Bool.eq_false_iff.2 hK_a_b]
              refine ⟨_, rfl, ?_⟩
              replace HS : St W (owns []) W47 [many (knE Try.prog 83 3 3 105 98 113 110 k7 n x8)] := HS.join (F := []) (G := []) H_
              clear H_
              refine ql (.bool false) (by kernel_rfl) (by kernel_rfl) ?_
              refine ql (.bool false) (by kernel_rfl) (by kernel_rfl) ?_
              refine ql (.pointer (some ⟨k7, 0, none⟩)) (by kernel_rfl) (by kernel_rfl) ?_
              refine ql (.int .i64 a) (by kernel_rfl) (by kernel_rfl) ?_
              refine ql (.int .i64 b) (by kernel_rfl) (by kernel_rfl) ?_
              refine qc (f := 20) (args := #[.pointer (some ⟨k7, 0, none⟩), .int .i64 a, .int .i64 b]) (by kernel_rfl) (R_call #[.pointer (some ⟨k7, 0, none⟩), .int .i64 a, .int .i64 b] Try.func20 (by kernel_rfl) (by kernel_rfl) (by kernel_rfl)) ?_
              refine (kalikeP k7 n x8 l a b _ (HS.hasP (i := 0) rfl) hok9 (by omega) (by first | omega | decide)).mono ?_
              rintro e W48 ⟨rfl, H_⟩
              rw [Bool.eq_false_iff.2 hK_a_b, Bool.eq_false_iff.2 hK_b_a]
              refine ⟨_, rfl, ?_⟩
              replace HS : St W (owns []) W48 [many (knE Try.prog 83 3 3 105 98 113 110 k7 n x8)] := HS.join (F := []) (G := []) H_
              clear H_
              refine ql (.bool false) (by kernel_rfl) (by kernel_rfl) ?_
              refine qln (by kernel_rfl) ?_
              refine qln (by kernel_rfl) ?_
              refine qln (by kernel_rfl) ?_
              refine qln (by kernel_rfl) ?_
              refine ql (.bool false) (by kernel_rfl) (by kernel_rfl) ?_
              refine ql (.bool false) (by kernel_rfl) (by kernel_rfl) ?_
              refine qln (by kernel_rfl) ?_
              refine qln (by kernel_rfl) ?_
              refine qln (by kernel_rfl) ?_
              refine qln (by kernel_rfl) ?_
              refine qln (by kernel_rfl) ?_
              refine ql (.bool false) (by kernel_rfl) (by kernel_rfl) ?_
              refine ql (.bool false) (by kernel_rfl) (by kernel_rfl) ?_
              refine ql (.bool false) (by kernel_rfl) (by kernel_rfl) ?_
              refine ql (.pointer (some ⟨k7, 0, none⟩)) (by kernel_rfl) (by kernel_rfl) ?_
              refine ql (.int .i64 a) (by kernel_rfl) (by kernel_rfl) ?_
              refine ql (.int .i64 b) (by kernel_rfl) (by kernel_rfl) ?_
              refine qc (f := 21) (args := #[.pointer (some ⟨k7, 0, none⟩), .int .i64 a, .int .i64 b]) (by kernel_rfl) (R_call #[.pointer (some ⟨k7, 0, none⟩), .int .i64 a, .int .i64 b] Try.func21 (by kernel_rfl) (by kernel_rfl) (by kernel_rfl)) ?_
              refine (khasP k7 n x8 l a b _ (HS.hasP (i := 0) rfl) hok9 (by omega) (by first | omega | decide)).mono ?_
              rintro e W49 ⟨rfl, H_⟩
              rw [Bool.eq_false_iff.2 hK_a_b]
              refine ⟨_, rfl, ?_⟩
              replace HS : St W (owns []) W49 [many (knE Try.prog 83 3 3 105 98 113 110 k7 n x8)] := HS.join (F := []) (G := []) H_
              clear H_
              refine ql (.bool false) (by kernel_rfl) (by kernel_rfl) ?_
              refine qln (by kernel_rfl) ?_
              refine qln (by kernel_rfl) ?_
              refine qln (by kernel_rfl) ?_
              refine qln (by kernel_rfl) ?_
              refine ql (.bool false) (by kernel_rfl) (by kernel_rfl) ?_
              refine ql (.bool false) (by kernel_rfl) (by kernel_rfl) ?_
              refine qln (by kernel_rfl) ?_
              refine qln (by kernel_rfl) ?_
              refine qln (by kernel_rfl) ?_
              refine qln (by kernel_rfl) ?_
              refine qln (by kernel_rfl) ?_
              refine ql (.bool false) (by kernel_rfl) (by kernel_rfl) ?_
              refine ql (.bool false) (by kernel_rfl) (by kernel_rfl) ?_
              refine wpList_nil ?_
              refine x_then ?_
              refine wp_cond_false (by kernel_rfl) ?_
              refine wp_skip ?_
              refine x_then ?_
              exact ⟨(fun k_ : Nat => List.getD ((.int .i64 n) :: (.slice Al l.length cl) :: (.int .i64 a) :: (.int .i64 b) :: (.int .i64 c) :: undef :: undef :: undef :: undef :: undef :: (.bool false) :: (.pointer (some ⟨k7, 0, none⟩)) :: undef :: (.slice Al l.length cl) :: (.int .i64 (l.length : Int)) :: (.bool false) :: (.bool false) :: (.int .i64 n) :: (.bool false) :: (.bool false) :: (.bool false) :: (.int .i64 n) :: (.bool false) :: (.bool false) :: undef :: (.int .i64 n) :: (.slice Al l.length cl) :: (.pointer (some ⟨k7, 0, none⟩)) :: (.pointer (some ⟨k7, 0, none⟩)) :: (.int .i64 a) :: (.int .i64 b) :: (.bool false) :: (.pointer (some ⟨k7, 0, none⟩)) :: (.int .i64 b) :: (.int .i64 a) :: (.bool false) :: (.bool false) :: (.bool false) :: (.pointer (some ⟨k7, 0, none⟩)) :: (.int .i64 a) :: (.int .i64 b) :: (.bool false) :: (.bool false) :: undef :: undef :: undef :: undef :: (.bool false) :: (.bool false) :: undef :: undef :: undef :: undef :: undef :: (.bool false) :: (.bool false) :: (.bool false) :: (.pointer (some ⟨k7, 0, none⟩)) :: (.int .i64 a) :: (.int .i64 b) :: (.bool false) :: (.bool false) :: undef :: undef :: undef :: undef :: (.bool false) :: (.bool false) :: undef :: undef :: undef :: undef :: undef :: (.bool false) :: (.bool false) :: undef :: undef :: undef :: undef :: undef :: undef :: undef :: undef :: undef :: undef :: undef :: undef :: undef :: undef :: undef :: undef :: undef :: undef :: undef :: undef :: undef :: undef :: undef :: undef :: undef :: undef :: undef :: undef :: undef :: undef :: undef :: undef :: undef :: undef :: undef :: undef :: undef :: undef :: undef :: undef :: undef :: undef :: undef :: undef :: []) k_ undef), k7, x8, congrArg Fr (by kernel_rfl), ⟨by omega, by omega⟩, (by omega), hok9, HS⟩
        · clear HS
          rintro a' W50 ⟨u11, k_6, x_6, rfl, hnb6, hlb6, hok_6, HS⟩
          refine wp_seq_cut (fun a' w' => ∃ (u51 : Nat → Value) (k_8 : Nat) (x_8 : KnX) , a' = Fr ((.int .i64 n) :: (.slice Al l.length cl) :: (.int .i64 a) :: (.int .i64 b) :: (.int .i64 c) :: undef :: undef :: undef :: undef :: undef :: ((u51 10)) :: (.pointer (some ⟨k_8, 0, none⟩)) :: undef :: (.slice Al l.length cl) :: (.int .i64 (l.length : Int)) :: (.bool false) :: (.bool false) :: (.int .i64 n) :: (.bool false) :: (.bool false) :: (.bool false) :: (.int .i64 n) :: (.bool false) :: (.bool false) :: undef :: (.int .i64 n) :: (.slice Al l.length cl) :: (.pointer (some ⟨k7, 0, none⟩)) :: ((u11 28)) :: ((u11 29)) :: ((u11 30)) :: ((u11 31)) :: ((u11 32)) :: ((u11 33)) :: ((u11 34)) :: ((u11 35)) :: ((u11 36)) :: ((u11 37)) :: ((u11 38)) :: ((u11 39)) :: ((u11 40)) :: ((u11 41)) :: ((u11 42)) :: ((u11 43)) :: ((u11 44)) :: ((u11 45)) :: ((u11 46)) :: ((u11 47)) :: ((u11 48)) :: ((u11 49)) :: ((u11 50)) :: ((u11 51)) :: ((u11 52)) :: ((u11 53)) :: ((u11 54)) :: ((u11 55)) :: ((u11 56)) :: ((u11 57)) :: ((u11 58)) :: ((u11 59)) :: ((u11 60)) :: ((u11 61)) :: ((u11 62)) :: ((u11 63)) :: ((u11 64)) :: ((u11 65)) :: ((u11 66)) :: ((u11 67)) :: ((u11 68)) :: ((u11 69)) :: ((u11 70)) :: ((u11 71)) :: ((u11 72)) :: ((u11 73)) :: ((u11 74)) :: ((u51 75)) :: ((u51 76)) :: ((u51 77)) :: ((u51 78)) :: ((u51 79)) :: ((u51 80)) :: ((u51 81)) :: ((u51 82)) :: ((u51 83)) :: ((u51 84)) :: ((u51 85)) :: undef :: undef :: undef :: undef :: undef :: undef :: undef :: undef :: undef :: undef :: undef :: undef :: undef :: undef :: undef :: undef :: undef :: undef :: undef :: undef :: undef :: undef :: undef :: undef :: undef :: undef :: undef :: undef :: undef :: undef :: undef :: undef :: undef :: []) ∧ (0 ≤ n ∧ n ≤ 12) ∧ (l.length ≤ 30) ∧ (x_8.ok n l) ∧ St W (owns []) w' [many (knE Try.prog 83 3 3 105 98 113 110 k_8 n x_8)]) ?_ ?_
          · skip
            refine wp_seq ?_
            refine wp_region_lit ?_
            refine ql (.pointer (some ⟨k_6, 0, none⟩)) (by kernel_rfl) (by kernel_rfl) ?_
            refine ql (.int .i64 a) (by kernel_rfl) (by kernel_rfl) ?_
            refine qc (f := 21) (args := #[.pointer (some ⟨k_6, 0, none⟩), .int .i64 a, .int .i64 0]) (by kernel_rfl) (R_call #[.pointer (some ⟨k_6, 0, none⟩), .int .i64 a, .int .i64 0] Try.func21 (by kernel_rfl) (by kernel_rfl) (by kernel_rfl)) ?_
            by_cases hK_a_0 : knB n l a 0 = true
            · skip
              refine (khasP k_6 n x_6 l a 0 _ (HS.hasP (i := 0) rfl) hok_6 (by omega) (by first | omega | decide)).mono ?_
              rintro e W52 ⟨rfl, H_⟩
              rw [hK_a_0]
              refine ⟨_, rfl, ?_⟩
              replace HS : St W (owns []) W52 [many (knE Try.prog 83 3 3 105 98 113 110 k_6 n x_6)] := HS.join (F := []) (G := []) H_
              clear H_
              refine ql (.bool true) (by kernel_rfl) (by kernel_rfl) ?_
              refine ql (.pointer (some ⟨k_6, 0, none⟩)) (by kernel_rfl) (by kernel_rfl) ?_
              refine ql (.int .i64 a) (by kernel_rfl) (by kernel_rfl) ?_
              refine qc (f := 22) (args := #[.pointer (some ⟨k_6, 0, none⟩), .int .i64 a]) (by kernel_rfl) (R_call #[.pointer (some ⟨k_6, 0, none⟩), .int .i64 a] Try.func22 (by kernel_rfl) (by kernel_rfl) (by kernel_rfl)) ?_
              have hlsubs := subs_len n l a n
              have hsa := subs_all hK_a_0
              refine (ksubsP k_6 n x_6 l a _ (HS.hasP (i := 0) rfl) hok_6 (by omega) (by first | omega | decide) (by omega)).mono ?_
              rintro e W55 ⟨A53, c54, rfl, H_⟩
              refine ⟨_, rfl, ?_⟩
              replace HS : St W (owns []) W55 [row A53 ((subsL n l a n).length) c54 (ci .i64 (subsL n l a n)) 3 1, many (knE Try.prog 83 3 3 105 98 113 110 k_6 n x_6)] := HS.join (F := []) (G := [row A53 ((subsL n l a n).length) c54 (ci .i64 (subsL n l a n)) 3 1]) H_
              clear H_
              refine ql (.int .i64 ((subsL n l a n).length : Int)) (by kernel_rfl) (by kernel_rfl) ?_
              refine ql (.int .i64 n) (by kernel_rfl) (by kernel_rfl) ?_
              by_cases hc56 : ((subsL n l a n).length : Int) = n
              · skip
                refine ql (.bool false) (by kernel_rfl) (R_beq (b := (((subsL n l a n).length : Int) != n)) (by kernel_rfl) (bne_f (hc56))) ?_
                refine ql (.bool false) (by kernel_rfl) (by kernel_rfl) ?_
                refine wpList_nil ?_
                refine x_then ?_
                refine wp_cond_false (by kernel_rfl) ?_
                refine wp_skip ?_
                replace HS := HS.drop1
                refine x_then ?_
                exact ⟨(fun k_ : Nat => List.getD ((.int .i64 n) :: (.slice Al l.length cl) :: (.int .i64 a) :: (.int .i64 b) :: (.int .i64 c) :: undef :: undef :: undef :: undef :: undef :: ((u11 10)) :: (.pointer (some ⟨k_6, 0, none⟩)) :: undef :: (.slice Al l.length cl) :: (.int .i64 (l.length : Int)) :: (.bool false) :: (.bool false) :: (.int .i64 n) :: (.bool false) :: (.bool false) :: (.bool false) :: (.int .i64 n) :: (.bool false) :: (.bool false) :: undef :: (.int .i64 n) :: (.slice Al l.length cl) :: (.pointer (some ⟨k7, 0, none⟩)) :: ((u11 28)) :: ((u11 29)) :: ((u11 30)) :: ((u11 31)) :: ((u11 32)) :: ((u11 33)) :: ((u11 34)) :: ((u11 35)) :: ((u11 36)) :: ((u11 37)) :: ((u11 38)) :: ((u11 39)) :: ((u11 40)) :: ((u11 41)) :: ((u11 42)) :: ((u11 43)) :: ((u11 44)) :: ((u11 45)) :: ((u11 46)) :: ((u11 47)) :: ((u11 48)) :: ((u11 49)) :: ((u11 50)) :: ((u11 51)) :: ((u11 52)) :: ((u11 53)) :: ((u11 54)) :: ((u11 55)) :: ((u11 56)) :: ((u11 57)) :: ((u11 58)) :: ((u11 59)) :: ((u11 60)) :: ((u11 61)) :: ((u11 62)) :: ((u11 63)) :: ((u11 64)) :: ((u11 65)) :: ((u11 66)) :: ((u11 67)) :: ((u11 68)) :: ((u11 69)) :: ((u11 70)) :: ((u11 71)) :: ((u11 72)) :: ((u11 73)) :: ((u11 74)) :: (.pointer (some ⟨k_6, 0, none⟩)) :: (.int .i64 a) :: (.bool true) :: (.bool true) :: (.pointer (some ⟨k_6, 0, none⟩)) :: (.int .i64 a) :: (.slice A53 ((subsL n l a n).length) c54) :: (.int .i64 ((subsL n l a n).length : Int)) :: (.int .i64 n) :: (.bool false) :: (.bool false) :: undef :: undef :: undef :: undef :: undef :: undef :: undef :: undef :: undef :: undef :: undef :: undef :: undef :: undef :: undef :: undef :: undef :: undef :: undef :: undef :: undef :: undef :: undef :: undef :: undef :: undef :: undef :: undef :: undef :: undef :: undef :: undef :: undef :: []) k_ undef), k_6, x_6, congrArg Fr (by kernel_rfl), ⟨by omega, by omega⟩, (by omega), hok_6, HS⟩
              · skip
                refine ql (.bool true) (by kernel_rfl) (R_beq (b := (((subsL n l a n).length : Int) != n)) (by kernel_rfl) (bne_t (hc56))) ?_
                refine ql (.bool true) (by kernel_rfl) (by kernel_rfl) ?_
                refine wpList_nil ?_
                refine x_then ?_
                refine wp_cond_true (by kernel_rfl) ?_
                refine wp_seq ?_
                refine wp_region_lit ?_
                refine ql (.bool false) (by kernel_rfl) (by kernel_rfl) ?_
                refine wpList_nil ?_
                refine x_then ?_
                refine wp_ret ?_
                refine x_thenR ?_
                refine ret_ (.bool false) (by kernel_rfl) ?_
                exfalso; omega
            · skip
              refine (khasP k_6 n x_6 l a 0 _ (HS.hasP (i := 0) rfl) hok_6 (by omega) (by first | omega | decide)).mono ?_
              rintro e W57 ⟨rfl, H_⟩
              rw [Bool.eq_false_iff.2 hK_a_0]
              refine ⟨_, rfl, ?_⟩
              replace HS : St W (owns []) W57 [many (knE Try.prog 83 3 3 105 98 113 110 k_6 n x_6)] := HS.join (F := []) (G := []) H_
              clear H_
              refine ql (.bool false) (by kernel_rfl) (by kernel_rfl) ?_
              refine qln (by kernel_rfl) ?_
              refine qln (by kernel_rfl) ?_
              refine qln (by kernel_rfl) ?_
              refine qln (by kernel_rfl) ?_
              refine qln (by kernel_rfl) ?_
              refine qln (by kernel_rfl) ?_
              refine ql (.bool false) (by kernel_rfl) (by kernel_rfl) ?_
              refine wpList_nil ?_
              refine x_then ?_
              refine wp_cond_false (by kernel_rfl) ?_
              refine wp_skip ?_
              refine x_then ?_
              exact ⟨(fun k_ : Nat => List.getD ((.int .i64 n) :: (.slice Al l.length cl) :: (.int .i64 a) :: (.int .i64 b) :: (.int .i64 c) :: undef :: undef :: undef :: undef :: undef :: ((u11 10)) :: (.pointer (some ⟨k_6, 0, none⟩)) :: undef :: (.slice Al l.length cl) :: (.int .i64 (l.length : Int)) :: (.bool false) :: (.bool false) :: (.int .i64 n) :: (.bool false) :: (.bool false) :: (.bool false) :: (.int .i64 n) :: (.bool false) :: (.bool false) :: undef :: (.int .i64 n) :: (.slice Al l.length cl) :: (.pointer (some ⟨k7, 0, none⟩)) :: ((u11 28)) :: ((u11 29)) :: ((u11 30)) :: ((u11 31)) :: ((u11 32)) :: ((u11 33)) :: ((u11 34)) :: ((u11 35)) :: ((u11 36)) :: ((u11 37)) :: ((u11 38)) :: ((u11 39)) :: ((u11 40)) :: ((u11 41)) :: ((u11 42)) :: ((u11 43)) :: ((u11 44)) :: ((u11 45)) :: ((u11 46)) :: ((u11 47)) :: ((u11 48)) :: ((u11 49)) :: ((u11 50)) :: ((u11 51)) :: ((u11 52)) :: ((u11 53)) :: ((u11 54)) :: ((u11 55)) :: ((u11 56)) :: ((u11 57)) :: ((u11 58)) :: ((u11 59)) :: ((u11 60)) :: ((u11 61)) :: ((u11 62)) :: ((u11 63)) :: ((u11 64)) :: ((u11 65)) :: ((u11 66)) :: ((u11 67)) :: ((u11 68)) :: ((u11 69)) :: ((u11 70)) :: ((u11 71)) :: ((u11 72)) :: ((u11 73)) :: ((u11 74)) :: (.pointer (some ⟨k_6, 0, none⟩)) :: (.int .i64 a) :: (.bool false) :: (.bool false) :: undef :: undef :: undef :: undef :: undef :: undef :: (.bool false) :: undef :: undef :: undef :: undef :: undef :: undef :: undef :: undef :: undef :: undef :: undef :: undef :: undef :: undef :: undef :: undef :: undef :: undef :: undef :: undef :: undef :: undef :: undef :: undef :: undef :: undef :: undef :: undef :: undef :: undef :: undef :: undef :: undef :: []) k_ undef), k_6, x_6, congrArg Fr (by kernel_rfl), ⟨by omega, by omega⟩, (by omega), hok_6, HS⟩
          · clear HS
            rintro a' W58 ⟨u51, k_8, x_8, rfl, hnb8, hlb8, hok_8, HS⟩
            refine wp_seq ?_
            refine wp_region_lit ?_
            refine ql (.int .i64 a) (by kernel_rfl) (by kernel_rfl) ?_
            by_cases hc59 : a ≥ (0 : Int)
            · skip
              refine ql (.bool true) (by kernel_rfl) (R_bool (p := a ≥ (0 : Int)) (by kernel_rfl) (hc59)) ?_
              refine ql (.bool true) (by kernel_rfl) (by kernel_rfl) ?_
              refine ql (.int .i64 a) (by kernel_rfl) (by kernel_rfl) ?_
              refine ql (.int .i64 n) (by kernel_rfl) (by kernel_rfl) ?_
              by_cases hc60 : a < n
              · skip
                refine ql (.bool true) (by kernel_rfl) (R_bool (p := a < n) (by kernel_rfl) (hc60)) ?_
                refine ql (.bool true) (by kernel_rfl) (by kernel_rfl) ?_
                refine ql (.bool true) (by kernel_rfl) (by kernel_rfl) ?_
                refine wpList_nil ?_
                refine x_then ?_
                refine wp_seq ?_
                refine wp_region_lit ?_
                refine ql (.pointer (some ⟨k_8, 0, none⟩)) (by kernel_rfl) (by kernel_rfl) ?_
                refine ql (.int .i64 a) (by kernel_rfl) (by kernel_rfl) ?_
                refine ql (.int .i64 a) (by kernel_rfl) (by kernel_rfl) ?_
                refine qc (f := 21) (args := #[.pointer (some ⟨k_8, 0, none⟩), .int .i64 a, .int .i64 a]) (by kernel_rfl) (R_call #[.pointer (some ⟨k_8, 0, none⟩), .int .i64 a, .int .i64 a] Try.func21 (by kernel_rfl) (by kernel_rfl) (by kernel_rfl)) ?_
                have hsf := knB_self (n := n) (l := l) (a := a)
                refine (khasP k_8 n x_8 l a a _ (HS.hasP (i := 0) rfl) hok_8 (by omega) (by first | omega | decide)).mono ?_
                rintro e W61 ⟨rfl, H_⟩
                rw [hsf, decide_eq_true (by omega)]
                refine ⟨_, rfl, ?_⟩
                replace HS : St W (owns []) W61 [many (knE Try.prog 83 3 3 105 98 113 110 k_8 n x_8)] := HS.join (F := []) (G := []) H_
                clear H_
                refine ql (.bool true) (by kernel_rfl) (by kernel_rfl) ?_
                refine ql (.bool true) (by kernel_rfl) (by kernel_rfl) ?_
                refine ql (.bool true) (by kernel_rfl) (by kernel_rfl) ?_
                refine ql (.bool true) (by kernel_rfl) (by kernel_rfl) ?_
                refine ql (.bool false) (by kernel_rfl) (by kernel_rfl) ?_
                refine ql (.bool false) (by kernel_rfl) (by kernel_rfl) ?_
                refine ql (.pointer (some ⟨k_8, 0, none⟩)) (by kernel_rfl) (by kernel_rfl) ?_
                refine ql (.int .i64 a) (by kernel_rfl) (by kernel_rfl) ?_
                refine qc (f := 21) (args := #[.pointer (some ⟨k_8, 0, none⟩), .int .i64 0, .int .i64 a]) (by kernel_rfl) (R_call #[.pointer (some ⟨k_8, 0, none⟩), .int .i64 0, .int .i64 a] Try.func21 (by kernel_rfl) (by kernel_rfl) (by kernel_rfl)) ?_
                refine (khasP k_8 n x_8 l 0 a _ (HS.hasP (i := 0) rfl) hok_8 (by omega) (by first | omega | decide)).mono ?_
                rintro e W62 ⟨rfl, H_⟩
                rw [knB_zero (by omega) (by omega)]
                refine ⟨_, rfl, ?_⟩
                replace HS : St W (owns []) W62 [many (knE Try.prog 83 3 3 105 98 113 110 k_8 n x_8)] := HS.join (F := []) (G := []) H_
                clear H_
                refine ql (.bool true) (by kernel_rfl) (by kernel_rfl) ?_
                refine ql (.bool true) (by kernel_rfl) (by kernel_rfl) ?_
                refine ql (.bool true) (by kernel_rfl) (by kernel_rfl) ?_
                refine ql (.pointer (some ⟨k_8, 0, none⟩)) (by kernel_rfl) (by kernel_rfl) ?_
                refine ql (.int .i64 a) (by kernel_rfl) (by kernel_rfl) ?_
                refine qc (f := 23) (args := #[.pointer (some ⟨k_8, 0, none⟩), .int .i64 a]) (by kernel_rfl) (R_call #[.pointer (some ⟨k_8, 0, none⟩), .int .i64 a] Try.func23 (by kernel_rfl) (by kernel_rfl) (by kernel_rfl)) ?_
                have hlsups := sups_len n l a n
                refine (ksupsP k_8 n x_8 l a _ (HS.hasP (i := 0) rfl) hok_8 (by omega) (by first | omega | decide) (by omega)).mono ?_
                rintro e W65 ⟨A63, c64, rfl, H_⟩
                refine ⟨_, rfl, ?_⟩
                replace HS : St W (owns []) W65 [row A63 ((supsL n l a n).length) c64 (ci .i64 (supsL n l a n)) 3 1, many (knE Try.prog 83 3 3 105 98 113 110 k_8 n x_8)] := HS.join (F := []) (G := [row A63 ((supsL n l a n).length) c64 (ci .i64 (supsL n l a n)) 3 1]) H_
                clear H_
                refine ql (.int .i64 ((supsL n l a n).length : Int)) (by kernel_rfl) (by kernel_rfl) ?_
                refine ql (.int .i64 n) (by kernel_rfl) (by kernel_rfl) ?_
                by_cases hc66 : ((supsL n l a n).length : Int) ≤ n
                · skip
                  refine ql (.bool true) (by kernel_rfl) (R_bool (p := ((supsL n l a n).length : Int) ≤ n) (by kernel_rfl) (hc66)) ?_
                  refine ql (.bool true) (by kernel_rfl) (by kernel_rfl) ?_
                  refine ql (.bool true) (by kernel_rfl) (by kernel_rfl) ?_
                  refine qc (f := 18) (args := #[]) (by kernel_rfl) (R_call #[] Try.func18 (by kernel_rfl) (by kernel_rfl) (by kernel_rfl)) ?_
                  refine (kawake _).mono ?_
                  rintro e W67 ⟨rfl, H_⟩
                  refine ⟨_, rfl, ?_⟩
                  replace HS : St W (owns []) W67 [row A63 ((supsL n l a n).length) c64 (ci .i64 (supsL n l a n)) 3 1, many (knE Try.prog 83 3 3 105 98 113 110 k_8 n x_8)] := HS.join (F := []) (G := []) H_
                  clear H_
                  refine ql (.bool true) (by kernel_rfl) (by kernel_rfl) ?_
                  refine ql (.bool true) (by kernel_rfl) (by kernel_rfl) ?_
                  refine wpList_nil ?_
                  refine x_then ?_
                  refine wp_ret ?_
                  refine ret_ (.bool true) (by kernel_rfl) ?_
                  replace HS := HS.drop1
                  replace HS := HS.drop1
                  exact ⟨rfl, HS⟩
                · skip
                  refine ql (.bool false) (by kernel_rfl) (R_nbool (p := ((supsL n l a n).length : Int) ≤ n) (by kernel_rfl) (hc66)) ?_
                  refine ql (.bool false) (by kernel_rfl) (by kernel_rfl) ?_
                  refine ql (.bool false) (by kernel_rfl) (by kernel_rfl) ?_
                  refine qln (by kernel_rfl) ?_
                  refine ql (.bool false) (by kernel_rfl) (by kernel_rfl) ?_
                  refine ql (.bool false) (by kernel_rfl) (by kernel_rfl) ?_
                  refine wpList_nil ?_
                  refine x_then ?_
                  refine wp_ret ?_
                  refine ret_ (.bool false) (by kernel_rfl) ?_
                  exfalso; omega
              · skip
                refine ql (.bool false) (by kernel_rfl) (R_nbool (p := a < n) (by kernel_rfl) (hc60)) ?_
                refine ql (.bool false) (by kernel_rfl) (by kernel_rfl) ?_
                refine ql (.bool false) (by kernel_rfl) (by kernel_rfl) ?_
                refine wpList_nil ?_
                refine x_then ?_
                refine wp_seq ?_
                refine wp_region_lit ?_
                refine ql (.pointer (some ⟨k_8, 0, none⟩)) (by kernel_rfl) (by kernel_rfl) ?_
                refine ql (.int .i64 a) (by kernel_rfl) (by kernel_rfl) ?_
                refine ql (.int .i64 a) (by kernel_rfl) (by kernel_rfl) ?_
                refine qc (f := 21) (args := #[.pointer (some ⟨k_8, 0, none⟩), .int .i64 a, .int .i64 a]) (by kernel_rfl) (R_call #[.pointer (some ⟨k_8, 0, none⟩), .int .i64 a, .int .i64 a] Try.func21 (by kernel_rfl) (by kernel_rfl) (by kernel_rfl)) ?_
                have hsf := knB_self (n := n) (l := l) (a := a)
                refine (khasP k_8 n x_8 l a a _ (HS.hasP (i := 0) rfl) hok_8 (by omega) (by first | omega | decide)).mono ?_
                rintro e W68 ⟨rfl, H_⟩
                rw [hsf, decide_eq_false (by omega)]
                refine ⟨_, rfl, ?_⟩
                replace HS : St W (owns []) W68 [many (knE Try.prog 83 3 3 105 98 113 110 k_8 n x_8)] := HS.join (F := []) (G := []) H_
                clear H_
                refine ql (.bool false) (by kernel_rfl) (by kernel_rfl) ?_
                refine ql (.bool true) (by kernel_rfl) (by kernel_rfl) ?_
                refine ql (.bool true) (by kernel_rfl) (by kernel_rfl) ?_
                refine ql (.bool false) (by kernel_rfl) (by kernel_rfl) ?_
                refine ql (.bool true) (by kernel_rfl) (by kernel_rfl) ?_
                refine ql (.bool true) (by kernel_rfl) (by kernel_rfl) ?_
                refine qln (by kernel_rfl) ?_
                refine qln (by kernel_rfl) ?_
                refine qln (by kernel_rfl) ?_
                refine ql (.bool true) (by kernel_rfl) (by kernel_rfl) ?_
                refine ql (.bool true) (by kernel_rfl) (by kernel_rfl) ?_
                refine ql (.bool true) (by kernel_rfl) (by kernel_rfl) ?_
                refine ql (.pointer (some ⟨k_8, 0, none⟩)) (by kernel_rfl) (by kernel_rfl) ?_
                refine ql (.int .i64 a) (by kernel_rfl) (by kernel_rfl) ?_
                refine qc (f := 23) (args := #[.pointer (some ⟨k_8, 0, none⟩), .int .i64 a]) (by kernel_rfl) (R_call #[.pointer (some ⟨k_8, 0, none⟩), .int .i64 a] Try.func23 (by kernel_rfl) (by kernel_rfl) (by kernel_rfl)) ?_
                have hlsups := sups_len n l a n
                refine (ksupsP k_8 n x_8 l a _ (HS.hasP (i := 0) rfl) hok_8 (by omega) (by first | omega | decide) (by omega)).mono ?_
                rintro e W71 ⟨A69, c70, rfl, H_⟩
                refine ⟨_, rfl, ?_⟩
                replace HS : St W (owns []) W71 [row A69 ((supsL n l a n).length) c70 (ci .i64 (supsL n l a n)) 3 1, many (knE Try.prog 83 3 3 105 98 113 110 k_8 n x_8)] := HS.join (F := []) (G := [row A69 ((supsL n l a n).length) c70 (ci .i64 (supsL n l a n)) 3 1]) H_
                clear H_
                refine ql (.int .i64 ((supsL n l a n).length : Int)) (by kernel_rfl) (by kernel_rfl) ?_
                refine ql (.int .i64 n) (by kernel_rfl) (by kernel_rfl) ?_
                by_cases hc72 : ((supsL n l a n).length : Int) ≤ n
                · skip
                  refine ql (.bool true) (by kernel_rfl) (R_bool (p := ((supsL n l a n).length : Int) ≤ n) (by kernel_rfl) (hc72)) ?_
                  refine ql (.bool true) (by kernel_rfl) (by kernel_rfl) ?_
                  refine ql (.bool true) (by kernel_rfl) (by kernel_rfl) ?_
                  refine qc (f := 18) (args := #[]) (by kernel_rfl) (R_call #[] Try.func18 (by kernel_rfl) (by kernel_rfl) (by kernel_rfl)) ?_
                  refine (kawake _).mono ?_
                  rintro e W73 ⟨rfl, H_⟩
                  refine ⟨_, rfl, ?_⟩
                  replace HS : St W (owns []) W73 [row A69 ((supsL n l a n).length) c70 (ci .i64 (supsL n l a n)) 3 1, many (knE Try.prog 83 3 3 105 98 113 110 k_8 n x_8)] := HS.join (F := []) (G := []) H_
                  clear H_
                  refine ql (.bool true) (by kernel_rfl) (by kernel_rfl) ?_
                  refine ql (.bool true) (by kernel_rfl) (by kernel_rfl) ?_
                  refine wpList_nil ?_
                  refine x_then ?_
                  refine wp_ret ?_
                  refine ret_ (.bool true) (by kernel_rfl) ?_
                  replace HS := HS.drop1
                  replace HS := HS.drop1
                  exact ⟨rfl, HS⟩
                · skip
                  refine ql (.bool false) (by kernel_rfl) (R_nbool (p := ((supsL n l a n).length : Int) ≤ n) (by kernel_rfl) (hc72)) ?_
                  refine ql (.bool false) (by kernel_rfl) (by kernel_rfl) ?_
                  refine ql (.bool false) (by kernel_rfl) (by kernel_rfl) ?_
                  refine qln (by kernel_rfl) ?_
                  refine ql (.bool false) (by kernel_rfl) (by kernel_rfl) ?_
                  refine ql (.bool false) (by kernel_rfl) (by kernel_rfl) ?_
                  refine wpList_nil ?_
                  refine x_then ?_
                  refine wp_ret ?_
                  refine ret_ (.bool false) (by kernel_rfl) ?_
                  exfalso; omega
            · skip
              refine ql (.bool false) (by kernel_rfl) (R_nbool (p := a ≥ (0 : Int)) (by kernel_rfl) (hc59)) ?_
              refine ql (.bool false) (by kernel_rfl) (by kernel_rfl) ?_
              refine qln (by kernel_rfl) ?_
              refine qln (by kernel_rfl) ?_
              refine qln (by kernel_rfl) ?_
              refine ql (.bool false) (by kernel_rfl) (by kernel_rfl) ?_
              refine ql (.bool false) (by kernel_rfl) (by kernel_rfl) ?_
              refine wpList_nil ?_
              refine x_then ?_
              refine wp_seq ?_
              refine wp_region_lit ?_
              refine ql (.pointer (some ⟨k_8, 0, none⟩)) (by kernel_rfl) (by kernel_rfl) ?_
              refine ql (.int .i64 a) (by kernel_rfl) (by kernel_rfl) ?_
              refine ql (.int .i64 a) (by kernel_rfl) (by kernel_rfl) ?_
              refine qc (f := 21) (args := #[.pointer (some ⟨k_8, 0, none⟩), .int .i64 a, .int .i64 a]) (by kernel_rfl) (R_call #[.pointer (some ⟨k_8, 0, none⟩), .int .i64 a, .int .i64 a] Try.func21 (by kernel_rfl) (by kernel_rfl) (by kernel_rfl)) ?_
              have hsf := knB_self (n := n) (l := l) (a := a)
              refine (khasP k_8 n x_8 l a a _ (HS.hasP (i := 0) rfl) hok_8 (by omega) (by first | omega | decide)).mono ?_
              rintro e W74 ⟨rfl, H_⟩
              rw [hsf, decide_eq_false (by omega)]
              refine ⟨_, rfl, ?_⟩
              replace HS : St W (owns []) W74 [many (knE Try.prog 83 3 3 105 98 113 110 k_8 n x_8)] := HS.join (F := []) (G := []) H_
              clear H_
              refine ql (.bool false) (by kernel_rfl) (by kernel_rfl) ?_
              refine ql (.bool true) (by kernel_rfl) (by kernel_rfl) ?_
              refine ql (.bool true) (by kernel_rfl) (by kernel_rfl) ?_
              refine ql (.bool false) (by kernel_rfl) (by kernel_rfl) ?_
              refine ql (.bool true) (by kernel_rfl) (by kernel_rfl) ?_
              refine ql (.bool true) (by kernel_rfl) (by kernel_rfl) ?_
              refine qln (by kernel_rfl) ?_
              refine qln (by kernel_rfl) ?_
              refine qln (by kernel_rfl) ?_
              refine ql (.bool true) (by kernel_rfl) (by kernel_rfl) ?_
              refine ql (.bool true) (by kernel_rfl) (by kernel_rfl) ?_
              refine ql (.bool true) (by kernel_rfl) (by kernel_rfl) ?_
              refine ql (.pointer (some ⟨k_8, 0, none⟩)) (by kernel_rfl) (by kernel_rfl) ?_
              refine ql (.int .i64 a) (by kernel_rfl) (by kernel_rfl) ?_
              refine qc (f := 23) (args := #[.pointer (some ⟨k_8, 0, none⟩), .int .i64 a]) (by kernel_rfl) (R_call #[.pointer (some ⟨k_8, 0, none⟩), .int .i64 a] Try.func23 (by kernel_rfl) (by kernel_rfl) (by kernel_rfl)) ?_
              have hlsups := sups_len n l a n
              refine (ksupsP k_8 n x_8 l a _ (HS.hasP (i := 0) rfl) hok_8 (by omega) (by first | omega | decide) (by omega)).mono ?_
              rintro e W77 ⟨A75, c76, rfl, H_⟩
              refine ⟨_, rfl, ?_⟩
              replace HS : St W (owns []) W77 [row A75 ((supsL n l a n).length) c76 (ci .i64 (supsL n l a n)) 3 1, many (knE Try.prog 83 3 3 105 98 113 110 k_8 n x_8)] := HS.join (F := []) (G := [row A75 ((supsL n l a n).length) c76 (ci .i64 (supsL n l a n)) 3 1]) H_
              clear H_
              refine ql (.int .i64 ((supsL n l a n).length : Int)) (by kernel_rfl) (by kernel_rfl) ?_
              refine ql (.int .i64 n) (by kernel_rfl) (by kernel_rfl) ?_
              by_cases hc78 : ((supsL n l a n).length : Int) ≤ n
              · skip
                refine ql (.bool true) (by kernel_rfl) (R_bool (p := ((supsL n l a n).length : Int) ≤ n) (by kernel_rfl) (hc78)) ?_
                refine ql (.bool true) (by kernel_rfl) (by kernel_rfl) ?_
                refine ql (.bool true) (by kernel_rfl) (by kernel_rfl) ?_
                refine qc (f := 18) (args := #[]) (by kernel_rfl) (R_call #[] Try.func18 (by kernel_rfl) (by kernel_rfl) (by kernel_rfl)) ?_
                refine (kawake _).mono ?_
                rintro e W79 ⟨rfl, H_⟩
                refine ⟨_, rfl, ?_⟩
                replace HS : St W (owns []) W79 [row A75 ((supsL n l a n).length) c76 (ci .i64 (supsL n l a n)) 3 1, many (knE Try.prog 83 3 3 105 98 113 110 k_8 n x_8)] := HS.join (F := []) (G := []) H_
                clear H_
                refine ql (.bool true) (by kernel_rfl) (by kernel_rfl) ?_
                refine ql (.bool true) (by kernel_rfl) (by kernel_rfl) ?_
                refine wpList_nil ?_
                refine x_then ?_
                refine wp_ret ?_
                refine ret_ (.bool true) (by kernel_rfl) ?_
                replace HS := HS.drop1
                replace HS := HS.drop1
                exact ⟨rfl, HS⟩
              · skip
                refine ql (.bool false) (by kernel_rfl) (R_nbool (p := ((supsL n l a n).length : Int) ≤ n) (by kernel_rfl) (hc78)) ?_
                refine ql (.bool false) (by kernel_rfl) (by kernel_rfl) ?_
                refine ql (.bool false) (by kernel_rfl) (by kernel_rfl) ?_
                refine qln (by kernel_rfl) ?_
                refine ql (.bool false) (by kernel_rfl) (by kernel_rfl) ?_
                refine ql (.bool false) (by kernel_rfl) (by kernel_rfl) ?_
                refine wpList_nil ?_
                refine x_then ?_
                refine wp_ret ?_
                refine ret_ (.bool false) (by kernel_rfl) ?_
                exfalso; omega


end Go.Proofs.Ytdiodmdohkjafaa.GDeclAlike
