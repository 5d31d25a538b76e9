/- Written for this claim by gp.py, a program of this session's, over the kit's print. Lean checks it. -/
import Derived.Test.YtdiodmdohkjafaaGDeclTellsx0
import Derived.Test.YtdiodmdohkjafaaGDeclTellshspDeclTellsa
import Derived.Test.YtdiodmdohkjafaaGDeclTellshspDeclTellsb
import Derived.Test.YtdiodmdohkjafaaGDeclTellshspDeclTellsc
import Derived.Test.YtdiodmdohkjafaaGDeclTellshspDeclTellsd
import Derived.WalkKit
import Derived.StillTailTactics
import Derived.Deep.LoopGhost
import Derived.KernelRfl
import Derived.Deep.OwnRows
import Derived.Laws.OwnMore
import Derived.Laws.MakeOwn
import Derived.Maps.AppendAt
import Derived.OrdersHeld
import Derived.Lib.TrailingZeros
import Derived.Laws.Bits64b
import Derived.Laws.BitsLemmas
import Derived.Laws.Entries
import Derived.RangeFuncWrites
import Derived.RangeFuncLeaves
import Derived.RangeFuncCalls
import Derived.Shelf.Abstract
import Derived.Laws.CopyRow
import Derived.Lib.Overlaps
import Derived.Lib.AppendZerosOnto
import Derived.Lib.SliceRun
import Derived.Laws.IdiomCopy
import Derived.ArgAppend
import Derived.Conc.EntryLaws
import Derived.Maps.OwnSet
import Derived.Maps.Keyed
import Derived.Maps.Views
import Derived.Laws.StructEq
import Derived.ChangeKeysEq
namespace Go.Proofs.Ytdiodmdohkjafaa.GDeclTells
open Go.RowKit Go.Proofs.YtdiodmdohkjafaaW.PrintWords Go.Proofs.YtdiodmdohkjafaaW.PrintLast Go.Proofs.YtdiodmdohkjafaaW.PrintMore
attribute [local go_sem] max2_int min2_int max_two min_two max_three min_three max_four min_four   -- for this text's walks alone
set_option linter.unusedVariables false
set_option linter.unusedSimpArgs false

--import Derived.WalkKit
--import Derived.StillTailTactics
--import Derived.Deep.LoopGhost
--import Derived.KernelRfl
--import Derived.Deep.OwnRows
--import Derived.Laws.OwnMore
--import Derived.Laws.MakeOwn
--import Derived.Maps.AppendAt
--import Derived.OrdersHeld
--import Derived.Lib.TrailingZeros
--import Derived.Laws.Bits64b
--import Derived.Laws.BitsLemmas
--import Derived.Laws.Entries
--import Derived.RangeFuncWrites
--import Derived.RangeFuncLeaves
--import Derived.RangeFuncCalls
--import Derived.Shelf.Abstract
--import Derived.Laws.CopyRow
--import Derived.Lib.Overlaps
--import Derived.Lib.AppendZerosOnto
--import Derived.Lib.SliceRun
--import Derived.Laws.IdiomCopy
--import Derived.ArgAppend
--import Derived.Conc.EntryLaws
--import Derived.Maps.OwnSet
--import Derived.Maps.Keyed
--import Derived.Maps.Views
--import Derived.Laws.StructEq
--import Derived.ChangeKeysEq
attribute [local irreducible] wpStill wpList Code.wp TA
open Go.Shelf
set_option maxRecDepth 100000 in
set_option maxHeartbeats 1000000 in
theorem lDeclTells (n a b : Int) (l m : List (Int × Int)) (Al Am : Option Addr) (cl cm : Nat) (W : World) (hra : Rd W Al (cf prC l)) (hrb : Rd W Am (cf prC m)) : Calls Try.prog 7 #[.int .i64 n, .slice Al l.length cl, .slice Am m.length cm, .int .i64 a, .int .i64 b] W fun e W' => e = .returned (.bool true) ∧ St W (owns []) W' [] := by
  have HS : St W (owns []) W [] := St.start W _
  refine calls_enter ((.int .i64 n) :: (.slice Al l.length cl) :: (.slice Am m.length cm) :: (.int .i64 a) :: (.int .i64 b) :: undef :: undef :: undef :: undef :: undef :: undef :: undef :: undef :: undef :: undef :: undef :: undef :: undef :: undef :: undef :: undef :: undef :: undef :: undef :: undef :: undef :: undef :: undef :: undef :: undef :: undef :: undef :: undef :: undef :: undef :: undef :: undef :: undef :: undef :: undef :: undef :: undef :: undef :: undef :: undef :: undef :: undef :: undef :: undef :: undef :: undef :: undef :: undef :: undef :: undef :: undef :: undef :: undef :: undef :: undef :: undef :: undef :: undef :: undef :: undef :: undef :: undef :: undef :: undef :: undef :: undef :: undef :: undef :: undef :: undef :: undef :: undef :: undef :: undef :: undef :: undef :: undef :: undef :: undef :: undef :: undef :: undef :: undef :: undef :: undef :: undef :: undef :: undef :: undef :: undef :: undef :: undef :: undef :: undef :: undef :: undef :: undef :: undef :: undef :: undef :: undef :: undef :: undef :: undef :: undef :: undef :: undef :: undef :: undef :: undef :: undef :: undef :: undef :: undef :: undef :: undef :: undef :: undef :: undef :: undef :: undef :: undef :: undef :: []) Try.func7 rfl (by kernel_rfl) ?_
  refine wp_seq ?_
  refine wp_region_lit ?_
  refine ql (.bool false) (by kernel_rfl) (by kernel_rfl) ?_
  refine wpList_nil ?_
  refine x_then ?_
  refine wp_seq ?_
  refine wp_seq ?_
  refine wp_region_lit ?_
  refine ql (.slice Al l.length cl) (by kernel_rfl) (by kernel_rfl) ?_
  refine ql (.int .i64 (l.length : Int)) (by kernel_rfl) (by kernel_rfl) ?_
  by_cases hc1 : (l.length : Int) > (30 : Int)
  · skip
    refine ql (.bool true) (by kernel_rfl) (R_bool (p := (l.length : Int) > (30 : Int)) (by kernel_rfl) (hc1)) ?_
    refine ql (.bool true) (by kernel_rfl) (by kernel_rfl) ?_
    refine qln (by kernel_rfl) ?_
    refine qln (by kernel_rfl) ?_
    refine qln (by kernel_rfl) ?_
    refine ql (.bool true) (by kernel_rfl) (by kernel_rfl) ?_
    refine ql (.bool true) (by kernel_rfl) (by kernel_rfl) ?_
    refine qln (by kernel_rfl) ?_
    refine qln (by kernel_rfl) ?_
    refine qln (by kernel_rfl) ?_
    refine qln (by kernel_rfl) ?_
    refine qln (by kernel_rfl) ?_
    refine qln (by kernel_rfl) ?_
    refine ql (.bool true) (by kernel_rfl) (by kernel_rfl) ?_
    refine wpList_nil ?_
    refine x_then ?_
    refine wp_cond_true (by kernel_rfl) ?_
    refine wp_seq ?_
    refine wp_region_lit ?_
    refine qc (f := 18) (args := #[]) (by kernel_rfl) (R_call #[] Try.func18 (by kernel_rfl) (by kernel_rfl) (by kernel_rfl)) ?_
    refine (kawake _).mono ?_
    rintro e W2 ⟨rfl, H_⟩
    refine ⟨_, rfl, ?_⟩
    replace HS : St W (owns []) W2 [] := HS.join (F := []) (G := []) H_
    clear H_
    refine ql (.bool true) (by kernel_rfl) (by kernel_rfl) ?_
    refine wpList_nil ?_
    refine x_then ?_
    refine wp_ret ?_
    refine x_thenR ?_
    refine ret_ (.bool true) (by kernel_rfl) ?_
    exact ⟨rfl, HS⟩
  · skip
    refine ql (.bool false) (by kernel_rfl) (R_nbool (p := (l.length : Int) > (30 : Int)) (by kernel_rfl) (hc1)) ?_
    refine ql (.bool false) (by kernel_rfl) (by kernel_rfl) ?_
    refine ql (.slice Am m.length cm) (by kernel_rfl) (by kernel_rfl) ?_
    refine ql (.int .i64 (m.length : Int)) (by kernel_rfl) (by kernel_rfl) ?_
    by_cases hc3 : (m.length : Int) > (30 : Int)
    · skip
      refine ql (.bool true) (by kernel_rfl) (R_bool (p := (m.length : Int) > (30 : Int)) (by kernel_rfl) (hc3)) ?_
      refine ql (.bool true) (by kernel_rfl) (by kernel_rfl) ?_
      refine ql (.bool true) (by kernel_rfl) (by kernel_rfl) ?_
      refine qln (by kernel_rfl) ?_
      refine qln (by kernel_rfl) ?_
      refine qln (by kernel_rfl) ?_
      refine qln (by kernel_rfl) ?_
      refine qln (by kernel_rfl) ?_
      refine qln (by kernel_rfl) ?_
      refine ql (.bool true) (by kernel_rfl) (by kernel_rfl) ?_
      refine wpList_nil ?_
      refine x_then ?_
      refine wp_cond_true (by kernel_rfl) ?_
      refine wp_seq ?_
      refine wp_region_lit ?_
      refine qc (f := 18) (args := #[]) (by kernel_rfl) (R_call #[] Try.func18 (by kernel_rfl) (by kernel_rfl) (by kernel_rfl)) ?_
      refine (kawake _).mono ?_
      rintro e W4 ⟨rfl, H_⟩
      refine ⟨_, rfl, ?_⟩
      replace HS : St W (owns []) W4 [] := HS.join (F := []) (G := []) H_
      clear H_
      refine ql (.bool true) (by kernel_rfl) (by kernel_rfl) ?_
      refine wpList_nil ?_
      refine x_then ?_
      refine wp_ret ?_
      refine x_thenR ?_
      refine ret_ (.bool true) (by kernel_rfl) ?_
      exact ⟨rfl, HS⟩
    · skip
      refine ql (.bool false) (by kernel_rfl) (R_nbool (p := (m.length : Int) > (30 : Int)) (by kernel_rfl) (hc3)) ?_
      refine ql (.bool false) (by kernel_rfl) (by kernel_rfl) ?_
      refine ql (.bool false) (by kernel_rfl) (by kernel_rfl) ?_
      refine ql (.int .i64 n) (by kernel_rfl) (by kernel_rfl) ?_
      by_cases hc5 : n > (12 : Int)
      · skip
        refine ql (.bool true) (by kernel_rfl) (R_bool (p := n > (12 : Int)) (by kernel_rfl) (hc5)) ?_
        refine ql (.bool true) (by kernel_rfl) (by kernel_rfl) ?_
        refine ql (.int .i64 n) (by kernel_rfl) (by kernel_rfl) ?_
        by_cases hc6 : n ≤ (65536 : Int)
        · skip
          refine ql (.bool true) (by kernel_rfl) (R_bool (p := n ≤ (65536 : Int)) (by kernel_rfl) (hc6)) ?_
          refine ql (.bool true) (by kernel_rfl) (by kernel_rfl) ?_
          refine ql (.bool true) (by kernel_rfl) (by kernel_rfl) ?_
          refine wpList_nil ?_
          refine x_then ?_
          refine wp_cond_true (by kernel_rfl) ?_
          refine wp_seq ?_
          refine wp_region_lit ?_
          refine qc (f := 18) (args := #[]) (by kernel_rfl) (R_call #[] Try.func18 (by kernel_rfl) (by kernel_rfl) (by kernel_rfl)) ?_
          refine (kawake _).mono ?_
          rintro e W7 ⟨rfl, H_⟩
          refine ⟨_, rfl, ?_⟩
          replace HS : St W (owns []) W7 [] := HS.join (F := []) (G := []) H_
          clear H_
          refine ql (.bool true) (by kernel_rfl) (by kernel_rfl) ?_
          refine wpList_nil ?_
          refine x_then ?_
          refine wp_ret ?_
          refine x_thenR ?_
          refine ret_ (.bool true) (by kernel_rfl) ?_
          exact ⟨rfl, HS⟩
        · skip
          refine ql (.bool false) (by kernel_rfl) (R_nbool (p := n ≤ (65536 : Int)) (by kernel_rfl) (hc6)) ?_
          refine ql (.bool false) (by kernel_rfl) (by kernel_rfl) ?_
          refine ql (.bool false) (by kernel_rfl) (by kernel_rfl) ?_
          refine wpList_nil ?_
          refine x_then ?_
          refine wp_cond_false (by kernel_rfl) ?_
          refine wp_skip ?_
          refine x_then ?_
          refine wp_seq ?_
          refine wp_region_lit ?_
          refine ql (.int .i64 n) (by kernel_rfl) (by kernel_rfl) ?_
          refine ql (.slice Al l.length cl) (by kernel_rfl) (by kernel_rfl) ?_
          refine qc (f := 19) (args := #[.int .i64 n, .slice Al l.length cl]) (by kernel_rfl) (R_call #[.int .i64 n, .slice Al l.length cl] Try.func19 (by kernel_rfl) (by kernel_rfl) (by kernel_rfl)) ?_
          refine (kof0b n Al cl l _ (by omega)).mono ?_
          rintro e W9 ⟨k8, rfl, H_⟩
          refine ⟨_, rfl, ?_⟩
          replace HS : St W (owns []) W9 [blk k8 [.int .i64 0, .map none, .pointer none] 83] := HS.join (F := []) (G := [blk k8 [.int .i64 0, .map none, .pointer none] 83]) H_
          clear H_
          refine ql (.pointer (some ⟨k8, 0, none⟩)) (by kernel_rfl) (by kernel_rfl) ?_
          refine wpList_nil ?_
          refine x_then ?_
          refine wp_seq ?_
          refine wp_region_lit ?_
          refine ql (.int .i64 n) (by kernel_rfl) (by kernel_rfl) ?_
          refine ql (.slice Al l.length cl) (by kernel_rfl) (by kernel_rfl) ?_
          refine qc (f := 35) (args := #[.int .i64 n, .slice Al l.length cl]) (by kernel_rfl) (R_call #[.int .i64 n, .slice Al l.length cl] Try.func35 (by kernel_rfl) (by kernel_rfl) (by kernel_rfl)) ?_
          refine (r31of0b n Al cl l _ (by omega)).mono ?_
          rintro e W12 ⟨A10, c11, rfl, H_⟩
          refine ⟨_, rfl, ?_⟩
          replace HS : St W (owns []) W12 [row A10 0 c11 (cp ([] : List Pp)) 22 1, blk k8 [.int .i64 0, .map none, .pointer none] 83] := HS.join (F := []) (G := [row A10 0 c11 (cp ([] : List Pp)) 22 1]) H_
          clear H_
          refine ql (.slice A10 0 c11) (by kernel_rfl) (by kernel_rfl) ?_
          refine wpList_nil ?_
          refine x_then ?_
          refine wp_seq_cut (fun a' w' => ∃ (u13 : Nat → Value) , a' = Fr ((.int .i64 n) :: (.slice Al l.length cl) :: (.slice Am m.length cm) :: (.int .i64 a) :: (.int .i64 b) :: undef :: undef :: undef :: undef :: undef :: ((u13 10)) :: (.pointer (some ⟨k8, 0, none⟩)) :: (.slice A10 0 c11) :: undef :: undef :: undef :: (.slice Al l.length cl) :: (.int .i64 (l.length : Int)) :: (.bool false) :: (.bool false) :: (.slice Am m.length cm) :: (.int .i64 (m.length : Int)) :: (.bool false) :: (.bool false) :: (.bool false) :: (.int .i64 n) :: (.bool true) :: (.bool true) :: (.int .i64 n) :: (.bool false) :: (.bool false) :: (.bool false) :: undef :: (.int .i64 n) :: (.slice Al l.length cl) :: (.pointer (some ⟨k8, 0, none⟩)) :: (.int .i64 n) :: (.slice Al l.length cl) :: (.slice A10 0 c11) :: ((u13 39)) :: ((u13 40)) :: ((u13 41)) :: ((u13 42)) :: ((u13 43)) :: ((u13 44)) :: ((u13 45)) :: ((u13 46)) :: ((u13 47)) :: ((u13 48)) :: ((u13 49)) :: ((u13 50)) :: ((u13 51)) :: ((u13 52)) :: ((u13 53)) :: ((u13 54)) :: ((u13 55)) :: ((u13 56)) :: ((u13 57)) :: ((u13 58)) :: ((u13 59)) :: ((u13 60)) :: ((u13 61)) :: ((u13 62)) :: ((u13 63)) :: ((u13 64)) :: ((u13 65)) :: ((u13 66)) :: ((u13 67)) :: ((u13 68)) :: ((u13 69)) :: ((u13 70)) :: ((u13 71)) :: ((u13 72)) :: ((u13 73)) :: ((u13 74)) :: ((u13 75)) :: ((u13 76)) :: ((u13 77)) :: ((u13 78)) :: ((u13 79)) :: ((u13 80)) :: ((u13 81)) :: ((u13 82)) :: ((u13 83)) :: ((u13 84)) :: ((u13 85)) :: ((u13 86)) :: ((u13 87)) :: ((u13 88)) :: undef :: undef :: undef :: undef :: undef :: undef :: undef :: undef :: undef :: undef :: undef :: undef :: undef :: undef :: undef :: undef :: undef :: undef :: undef :: undef :: undef :: undef :: undef :: undef :: undef :: undef :: undef :: undef :: undef :: undef :: undef :: undef :: undef :: undef :: undef :: undef :: undef :: undef :: undef :: []) ∧ St W (owns []) w' [blk k8 [.int .i64 0, .map none, .pointer none] 83, row A10 0 c11 (cp ([] : List Pp)) 22 1]) ?_ ?_
          · skip
            refine wp_seq ?_
            refine wp_region_lit ?_
            refine ql (.pointer (some ⟨k8, 0, none⟩)) (by kernel_rfl) (by kernel_rfl) ?_
            refine qc (f := 36) (args := #[.pointer (some ⟨k8, 0, none⟩)]) (by kernel_rfl) (R_call #[.pointer (some ⟨k8, 0, none⟩)] Try.func36 (by kernel_rfl) (by kernel_rfl) (by kernel_rfl)) ?_
            refine (klen k8 0 _ (HS.cell (i := 1) (j := 0) rfl rfl)).mono ?_
            rintro e W14 ⟨rfl, H_⟩
            refine ⟨_, rfl, ?_⟩
            replace HS : St W (owns []) W14 [row A10 0 c11 (cp ([] : List Pp)) 22 1, blk k8 [.int .i64 0, .map none, .pointer none] 83] := HS.join (F := []) (G := []) H_
            clear H_
            refine ql (.slice A10 0 c11) (by kernel_rfl) (by kernel_rfl) ?_
            refine ql (.int .i64 0) (by kernel_rfl) (by kernel_rfl) ?_
            refine ql (.bool false) (by kernel_rfl) (R_beq (b := ((0 : Int) != 0)) (by kernel_rfl) (by decide)) ?_
            refine ql (.bool false) (by kernel_rfl) (by kernel_rfl) ?_
            refine ql (.pointer (some ⟨k8, 0, none⟩)) (by kernel_rfl) (by kernel_rfl) ?_
            refine ql (.int .i64 a) (by kernel_rfl) (by kernel_rfl) ?_
            refine ql (.int .i64 b) (by kernel_rfl) (by kernel_rfl) ?_
            refine qc (f := 21) (args := #[.pointer (some ⟨k8, 0, none⟩), .int .i64 a, .int .i64 b]) (by kernel_rfl) (R_call #[.pointer (some ⟨k8, 0, none⟩), .int .i64 a, .int .i64 b] Try.func21 (by kernel_rfl) (by kernel_rfl) (by kernel_rfl)) ?_
            refine (khas0 k8 a b _ (HS.cell (i := 1) (j := 0) rfl rfl)).mono ?_
            rintro e W15 ⟨rfl, H_⟩
            refine ⟨_, rfl, ?_⟩
            replace HS : St W (owns []) W15 [row A10 0 c11 (cp ([] : List Pp)) 22 1, blk k8 [.int .i64 0, .map none, .pointer none] 83] := HS.join (F := []) (G := []) H_
            clear H_
            refine ql (.slice A10 0 c11) (by kernel_rfl) (by kernel_rfl) ?_
            refine ql (.int .i64 a) (by kernel_rfl) (by kernel_rfl) ?_
            refine ql (.int .i64 b) (by kernel_rfl) (by kernel_rfl) ?_
            refine qc (f := 37) (args := #[.slice A10 0 c11, .int .i64 a, .int .i64 b]) (by kernel_rfl) (R_call #[.slice A10 0 c11, .int .i64 a, .int .i64 b] Try.func37 (by kernel_rfl) (by kernel_rfl) (by kernel_rfl)) ?_
            refine (r31has A10 c11 [] 0 l a b _ (Rd.row HS (i := 0) rfl) (fun p hp => (nomatch hp)) (rm_nil l) (by omega)).mono ?_
            rintro e W16 ⟨rfl, H_⟩
            rw [knB_0]
            refine ⟨_, rfl, ?_⟩
            replace HS : St W (owns []) W16 [row A10 0 c11 (cp ([] : List Pp)) 22 1, blk k8 [.int .i64 0, .map none, .pointer none] 83] := HS.join (F := []) (G := []) H_
            clear H_
            refine ql (.bool false) (by kernel_rfl) (by kernel_rfl) ?_
            refine ql (.bool false) (by kernel_rfl) (by kernel_rfl) ?_
            refine ql (.bool false) (by kernel_rfl) (by kernel_rfl) ?_
            refine ql (.pointer (some ⟨k8, 0, none⟩)) (by kernel_rfl) (by kernel_rfl) ?_
            refine ql (.int .i64 a) (by kernel_rfl) (by kernel_rfl) ?_
            refine ql (.int .i64 b) (by kernel_rfl) (by kernel_rfl) ?_
            refine qc (f := 20) (args := #[.pointer (some ⟨k8, 0, none⟩), .int .i64 a, .int .i64 b]) (by kernel_rfl) (R_call #[.pointer (some ⟨k8, 0, none⟩), .int .i64 a, .int .i64 b] Try.func20 (by kernel_rfl) (by kernel_rfl) (by kernel_rfl)) ?_
            refine (kalike0 k8 a b _ (HS.cell (i := 1) (j := 0) rfl rfl)).mono ?_
            rintro e W17 ⟨rfl, H_⟩
            refine ⟨_, rfl, ?_⟩
            replace HS : St W (owns []) W17 [row A10 0 c11 (cp ([] : List Pp)) 22 1, blk k8 [.int .i64 0, .map none, .pointer none] 83] := HS.join (F := []) (G := []) H_
            clear H_
            refine ql (.slice A10 0 c11) (by kernel_rfl) (by kernel_rfl) ?_
            refine ql (.int .i64 a) (by kernel_rfl) (by kernel_rfl) ?_
            refine ql (.int .i64 b) (by kernel_rfl) (by kernel_rfl) ?_
            refine qc (f := 37) (args := #[.slice A10 0 c11, .int .i64 a, .int .i64 b]) (by kernel_rfl) (R_call #[.slice A10 0 c11, .int .i64 a, .int .i64 b] Try.func37 (by kernel_rfl) (by kernel_rfl) (by kernel_rfl)) ?_
            refine (r31has A10 c11 [] 0 l a b _ (Rd.row HS (i := 0) rfl) (fun p hp => (nomatch hp)) (rm_nil l) (by omega)).mono ?_
            rintro e W18 ⟨rfl, H_⟩
            rw [knB_0]
            refine ⟨_, rfl, ?_⟩
            replace HS : St W (owns []) W18 [row A10 0 c11 (cp ([] : List Pp)) 22 1, blk k8 [.int .i64 0, .map none, .pointer none] 83] := HS.join (F := []) (G := []) H_
            clear H_
            refine ql (.bool false) (by kernel_rfl) (by kernel_rfl) ?_
            refine qln (by kernel_rfl) ?_
            refine qln (by kernel_rfl) ?_
            refine qln (by kernel_rfl) ?_
            refine qln (by kernel_rfl) ?_
            refine ql (.bool false) (by kernel_rfl) (by kernel_rfl) ?_
            refine ql (.bool false) (by kernel_rfl) (by kernel_rfl) ?_
            refine ql (.bool false) (by kernel_rfl) (by kernel_rfl) ?_
            refine ql (.bool false) (by kernel_rfl) (by kernel_rfl) ?_
            refine ql (.pointer (some ⟨k8, 0, none⟩)) (by kernel_rfl) (by kernel_rfl) ?_
            refine ql (.slice Am m.length cm) (by kernel_rfl) (by kernel_rfl) ?_
            refine qc (f := 38) (args := #[.pointer (some ⟨k8, 0, none⟩), .slice Am m.length cm]) (by kernel_rfl) (R_call #[.pointer (some ⟨k8, 0, none⟩), .slice Am m.length cm] Try.func38 (by kernel_rfl) (by kernel_rfl) (by kernel_rfl)) ?_
            by_cases hall : allK 0 l m = true
            · skip
              refine (kall0 k8 l Am cm m _ (HS.cell (i := 1) (j := 0) rfl rfl) (hrb.old0 HS) (by omega)).mono ?_
              rintro e W19 ⟨rfl, H_⟩
              rw [hall]
              refine ⟨_, rfl, ?_⟩
              replace HS : St W (owns []) W19 [row A10 0 c11 (cp ([] : List Pp)) 22 1, blk k8 [.int .i64 0, .map none, .pointer none] 83] := HS.join (F := []) (G := []) H_
              clear H_
              refine ql (.slice A10 0 c11) (by kernel_rfl) (by kernel_rfl) ?_
              refine ql (.slice Am m.length cm) (by kernel_rfl) (by kernel_rfl) ?_
              refine qc (f := 39) (args := #[.slice A10 0 c11, .slice Am m.length cm]) (by kernel_rfl) (R_call #[.slice A10 0 c11, .slice Am m.length cm] Try.func39 (by kernel_rfl) (by kernel_rfl) (by kernel_rfl)) ?_
              refine (r31all A10 c11 [] 0 l Am cm m _ (Rd.row HS (i := 0) rfl) (fun p hp => (nomatch hp)) (rm_nil l) (by omega) (hrb.old0 HS) (by omega)).mono ?_
              rintro e W20 ⟨rfl, H_⟩
              rw [hall]
              refine ⟨_, rfl, ?_⟩
              replace HS : St W (owns []) W20 [row A10 0 c11 (cp ([] : List Pp)) 22 1, blk k8 [.int .i64 0, .map none, .pointer none] 83] := HS.join (F := []) (G := []) H_
              clear H_
              refine ql (.bool false) (by kernel_rfl) (by kernel_rfl) ?_
              refine ql (.bool false) (by kernel_rfl) (by kernel_rfl) ?_
              refine ql (.bool false) (by kernel_rfl) (by kernel_rfl) ?_
              refine ql (.pointer (some ⟨k8, 0, none⟩)) (by kernel_rfl) (by kernel_rfl) ?_
              refine qc (f := 41) (args := #[.pointer (some ⟨k8, 0, none⟩)]) (by kernel_rfl) (R_call #[.pointer (some ⟨k8, 0, none⟩)] Try.func41 (by kernel_rfl) (by kernel_rfl) (by kernel_rfl)) ?_
              refine (kbnd0 k8 _ (HS.cell (i := 1) (j := 0) rfl rfl)).mono ?_
              rintro e W21 ⟨rfl, H_⟩
              refine ⟨_, rfl, ?_⟩
              replace HS : St W (owns []) W21 [row A10 0 c11 (cp ([] : List Pp)) 22 1, blk k8 [.int .i64 0, .map none, .pointer none] 83] := HS.join (F := []) (G := []) H_
              clear H_
              refine ql (.slice A10 0 c11) (by kernel_rfl) (by kernel_rfl) ?_
              refine qc (f := 42) (args := #[.slice A10 0 c11]) (by kernel_rfl) (R_call #[.slice A10 0 c11] Try.func42 (by kernel_rfl) (by kernel_rfl) (by kernel_rfl)) ?_
              refine (r31bnd A10 c11 [] 0 l _ (Rd.row HS (i := 0) rfl) (fun p hp => (nomatch hp)) (rm_nil l) (by omega)).mono ?_
              rintro e W24 ⟨A22, c23, rfl, H_⟩
              refine ⟨_, rfl, ?_⟩
              replace HS : St W (owns []) W24 [row A22 ((bndL 0 l).length) c23 (cf prC (bndL 0 l)) 79 2, row A10 0 c11 (cp ([] : List Pp)) 22 1, blk k8 [.int .i64 0, .map none, .pointer none] 83] := HS.join (F := []) (G := [row A22 ((bndL 0 l).length) c23 (cf prC (bndL 0 l)) 79 2]) H_
              clear H_
              refine qc (f := 40) (args := #[.slice none 0 0, .slice A22 ((bndL 0 l).length) c23]) (by kernel_rfl) (R_call #[.slice none 0 0, .slice A22 ((bndL 0 l).length) c23] Try.func40 (by kernel_rfl) (by kernel_rfl) (by kernel_rfl)) ?_
              refine (r17b none A22 0 c23 [] [] _ rd_nilP (Rd.row HS (i := 0) rfl) (by decide) (by decide)).mono ?_
              rintro e W25 ⟨rfl, H_⟩
              rw [decide_eq_true rfl]
              refine ⟨_, rfl, ?_⟩
              replace HS : St W (owns []) W25 [row A22 ((bndL 0 l).length) c23 (cf prC (bndL 0 l)) 79 2, row A10 0 c11 (cp ([] : List Pp)) 22 1, blk k8 [.int .i64 0, .map none, .pointer none] 83] := HS.join (F := []) (G := []) H_
              clear H_
              refine ql (.bool false) (by kernel_rfl) (by kernel_rfl) ?_
              refine ql (.bool false) (by kernel_rfl) (by kernel_rfl) ?_
              refine wpList_nil ?_
              refine x_then ?_
              refine wp_cond_false (by kernel_rfl) ?_
              refine wp_skip ?_
              replace HS : St W (owns []) W25 [blk k8 [.int .i64 0, .map none, .pointer none] 83, row A10 0 c11 (cp ([] : List Pp)) 22 1] := St.tail (F := [row A22 ((bndL 0 l).length) c23 (cf prC (bndL 0 l)) 79 2]) (HS.perm (perm_ [0, 2, 1] (by kernel_rfl) rfl))
              refine x_then ?_
              exact ⟨(fun k_ : Nat => List.getD ((.int .i64 n) :: (.slice Al l.length cl) :: (.slice Am m.length cm) :: (.int .i64 a) :: (.int .i64 b) :: undef :: undef :: undef :: undef :: undef :: (.bool false) :: (.pointer (some ⟨k8, 0, none⟩)) :: (.slice A10 0 c11) :: undef :: undef :: undef :: (.slice Al l.length cl) :: (.int .i64 (l.length : Int)) :: (.bool false) :: (.bool false) :: (.slice Am m.length cm) :: (.int .i64 (m.length : Int)) :: (.bool false) :: (.bool false) :: (.bool false) :: (.int .i64 n) :: (.bool true) :: (.bool true) :: (.int .i64 n) :: (.bool false) :: (.bool false) :: (.bool false) :: undef :: (.int .i64 n) :: (.slice Al l.length cl) :: (.pointer (some ⟨k8, 0, none⟩)) :: (.int .i64 n) :: (.slice Al l.length cl) :: (.slice A10 0 c11) :: (.pointer (some ⟨k8, 0, none⟩)) :: (.int .i64 0) :: (.slice A10 0 c11) :: (.int .i64 0) :: (.bool false) :: (.bool false) :: (.pointer (some ⟨k8, 0, none⟩)) :: (.int .i64 a) :: (.int .i64 b) :: (.bool false) :: (.slice A10 0 c11) :: (.int .i64 a) :: (.int .i64 b) :: (.bool false) :: (.bool false) :: (.bool false) :: (.bool false) :: (.pointer (some ⟨k8, 0, none⟩)) :: (.int .i64 a) :: (.int .i64 b) :: (.bool false) :: (.slice A10 0 c11) :: (.int .i64 a) :: (.int .i64 b) :: (.bool false) :: (.bool false) :: undef :: undef :: undef :: undef :: (.bool false) :: (.bool false) :: (.bool false) :: (.bool false) :: (.pointer (some ⟨k8, 0, none⟩)) :: (.slice Am m.length cm) :: (.bool true) :: (.slice A10 0 c11) :: (.slice Am m.length cm) :: (.bool true) :: (.bool false) :: (.bool false) :: (.bool false) :: (.pointer (some ⟨k8, 0, none⟩)) :: (.slice none 0 0) :: (.slice A10 0 c11) :: (.slice A22 ((bndL 0 l).length) c23) :: (.bool true) :: (.bool false) :: (.bool false) :: undef :: undef :: undef :: undef :: undef :: undef :: undef :: undef :: undef :: undef :: undef :: undef :: undef :: undef :: undef :: undef :: undef :: undef :: undef :: undef :: undef :: undef :: undef :: undef :: undef :: undef :: undef :: undef :: undef :: undef :: undef :: undef :: undef :: undef :: undef :: undef :: undef :: undef :: undef :: []) k_ undef), congrArg Fr (by kernel_rfl), HS⟩
            · skip
              refine (kall0 k8 l Am cm m _ (HS.cell (i := 1) (j := 0) rfl rfl) (hrb.old0 HS) (by omega)).mono ?_
              rintro e W26 ⟨rfl, H_⟩
              rw [Bool.eq_false_iff.2 hall]
              refine ⟨_, rfl, ?_⟩
              replace HS : St W (owns []) W26 [row A10 0 c11 (cp ([] : List Pp)) 22 1, blk k8 [.int .i64 0, .map none, .pointer none] 83] := HS.join (F := []) (G := []) H_
              clear H_
              refine ql (.slice A10 0 c11) (by kernel_rfl) (by kernel_rfl) ?_
              refine ql (.slice Am m.length cm) (by kernel_rfl) (by kernel_rfl) ?_
              refine qc (f := 39) (args := #[.slice A10 0 c11, .slice Am m.length cm]) (by kernel_rfl) (R_call #[.slice A10 0 c11, .slice Am m.length cm] Try.func39 (by kernel_rfl) (by kernel_rfl) (by kernel_rfl)) ?_
              refine (r31all A10 c11 [] 0 l Am cm m _ (Rd.row HS (i := 0) rfl) (fun p hp => (nomatch hp)) (rm_nil l) (by omega) (hrb.old0 HS) (by omega)).mono ?_
              rintro e W27 ⟨rfl, H_⟩
              rw [Bool.eq_false_iff.2 hall]
              refine ⟨_, rfl, ?_⟩
              replace HS : St W (owns []) W27 [row A10 0 c11 (cp ([] : List Pp)) 22 1, blk k8 [.int .i64 0, .map none, .pointer none] 83] := HS.join (F := []) (G := []) H_
              clear H_
              refine ql (.bool false) (by kernel_rfl) (by kernel_rfl) ?_
              refine ql (.bool false) (by kernel_rfl) (by kernel_rfl) ?_
              refine ql (.bool false) (by kernel_rfl) (by kernel_rfl) ?_
              refine ql (.pointer (some ⟨k8, 0, none⟩)) (by kernel_rfl) (by kernel_rfl) ?_
              refine qc (f := 41) (args := #[.pointer (some ⟨k8, 0, none⟩)]) (by kernel_rfl) (R_call #[.pointer (some ⟨k8, 0, none⟩)] Try.func41 (by kernel_rfl) (by kernel_rfl) (by kernel_rfl)) ?_
              refine (kbnd0 k8 _ (HS.cell (i := 1) (j := 0) rfl rfl)).mono ?_
              rintro e W28 ⟨rfl, H_⟩
              refine ⟨_, rfl, ?_⟩
              replace HS : St W (owns []) W28 [row A10 0 c11 (cp ([] : List Pp)) 22 1, blk k8 [.int .i64 0, .map none, .pointer none] 83] := HS.join (F := []) (G := []) H_
              clear H_
              refine ql (.slice A10 0 c11) (by kernel_rfl) (by kernel_rfl) ?_
              refine qc (f := 42) (args := #[.slice A10 0 c11]) (by kernel_rfl) (R_call #[.slice A10 0 c11] Try.func42 (by kernel_rfl) (by kernel_rfl) (by kernel_rfl)) ?_
              refine (r31bnd A10 c11 [] 0 l _ (Rd.row HS (i := 0) rfl) (fun p hp => (nomatch hp)) (rm_nil l) (by omega)).mono ?_
              rintro e W31 ⟨A29, c30, rfl, H_⟩
              refine ⟨_, rfl, ?_⟩
              replace HS : St W (owns []) W31 [row A29 ((bndL 0 l).length) c30 (cf prC (bndL 0 l)) 79 2, row A10 0 c11 (cp ([] : List Pp)) 22 1, blk k8 [.int .i64 0, .map none, .pointer none] 83] := HS.join (F := []) (G := [row A29 ((bndL 0 l).length) c30 (cf prC (bndL 0 l)) 79 2]) H_
              clear H_
              refine qc (f := 40) (args := #[.slice none 0 0, .slice A29 ((bndL 0 l).length) c30]) (by kernel_rfl) (R_call #[.slice none 0 0, .slice A29 ((bndL 0 l).length) c30] Try.func40 (by kernel_rfl) (by kernel_rfl) (by kernel_rfl)) ?_
              refine (r17b none A29 0 c30 [] [] _ rd_nilP (Rd.row HS (i := 0) rfl) (by decide) (by decide)).mono ?_
              rintro e W32 ⟨rfl, H_⟩
              rw [decide_eq_true rfl]
              refine ⟨_, rfl, ?_⟩
              replace HS : St W (owns []) W32 [row A29 ((bndL 0 l).length) c30 (cf prC (bndL 0 l)) 79 2, row A10 0 c11 (cp ([] : List Pp)) 22 1, blk k8 [.int .i64 0, .map none, .pointer none] 83] := HS.join (F := []) (G := []) H_
              clear H_
              refine ql (.bool false) (by kernel_rfl) (by kernel_rfl) ?_
              refine ql (.bool false) (by kernel_rfl) (by kernel_rfl) ?_
              refine wpList_nil ?_
              refine x_then ?_
              refine wp_cond_false (by kernel_rfl) ?_
              refine wp_skip ?_
              replace HS : St W (owns []) W32 [blk k8 [.int .i64 0, .map none, .pointer none] 83, row A10 0 c11 (cp ([] : List Pp)) 22 1] := St.tail (F := [row A29 ((bndL 0 l).length) c30 (cf prC (bndL 0 l)) 79 2]) (HS.perm (perm_ [0, 2, 1] (by kernel_rfl) rfl))
              refine x_then ?_
              exact ⟨(fun k_ : Nat => List.getD ((.int .i64 n) :: (.slice Al l.length cl) :: (.slice Am m.length cm) :: (.int .i64 a) :: (.int .i64 b) :: undef :: undef :: undef :: undef :: undef :: (.bool false) :: (.pointer (some ⟨k8, 0, none⟩)) :: (.slice A10 0 c11) :: undef :: undef :: undef :: (.slice Al l.length cl) :: (.int .i64 (l.length : Int)) :: (.bool false) :: (.bool false) :: (.slice Am m.length cm) :: (.int .i64 (m.length : Int)) :: (.bool false) :: (.bool false) :: (.bool false) :: (.int .i64 n) :: (.bool true) :: (.bool true) :: (.int .i64 n) :: (.bool false) :: (.bool false) :: (.bool false) :: undef :: (.int .i64 n) :: (.slice Al l.length cl) :: (.pointer (some ⟨k8, 0, none⟩)) :: (.int .i64 n) :: (.slice Al l.length cl) :: (.slice A10 0 c11) :: (.pointer (some ⟨k8, 0, none⟩)) :: (.int .i64 0) :: (.slice A10 0 c11) :: (.int .i64 0) :: (.bool false) :: (.bool false) :: (.pointer (some ⟨k8, 0, none⟩)) :: (.int .i64 a) :: (.int .i64 b) :: (.bool false) :: (.slice A10 0 c11) :: (.int .i64 a) :: (.int .i64 b) :: (.bool false) :: (.bool false) :: (.bool false) :: (.bool false) :: (.pointer (some ⟨k8, 0, none⟩)) :: (.int .i64 a) :: (.int .i64 b) :: (.bool false) :: (.slice A10 0 c11) :: (.int .i64 a) :: (.int .i64 b) :: (.bool false) :: (.bool false) :: undef :: undef :: undef :: undef :: (.bool false) :: (.bool false) :: (.bool false) :: (.bool false) :: (.pointer (some ⟨k8, 0, none⟩)) :: (.slice Am m.length cm) :: (.bool false) :: (.slice A10 0 c11) :: (.slice Am m.length cm) :: (.bool false) :: (.bool false) :: (.bool false) :: (.bool false) :: (.pointer (some ⟨k8, 0, none⟩)) :: (.slice none 0 0) :: (.slice A10 0 c11) :: (.slice A29 ((bndL 0 l).length) c30) :: (.bool true) :: (.bool false) :: (.bool false) :: undef :: undef :: undef :: undef :: undef :: undef :: undef :: undef :: undef :: undef :: undef :: undef :: undef :: undef :: undef :: undef :: undef :: undef :: undef :: undef :: undef :: undef :: undef :: undef :: undef :: undef :: undef :: undef :: undef :: undef :: undef :: undef :: undef :: undef :: undef :: undef :: undef :: undef :: undef :: []) k_ undef), congrArg Fr (by kernel_rfl), HS⟩
          · clear HS
            rintro a' W33 ⟨u13, rfl, HS⟩
            refine wp_seq ?_
            refine wp_region_lit ?_
            refine kl HS 0 [] 3 1 (by kernel_rfl) (by kernel_rfl) rfl (by decide) ?_
            intro g34 W35 H_
            replace HS : St W (owns []) W35 [row (some ⟨g34, 0, none⟩) 0 0 (ci .i64 ([])) 3 1, blk k8 [.int .i64 0, .map none, .pointer none] 83, row A10 0 c11 (cp ([] : List Pp)) 22 1] := H_.cast_ (by kernel_rfl)
            clear H_
            refine kl HS 0 [] 3 1 (by kernel_rfl) (by kernel_rfl) rfl (by decide) ?_
            intro g36 W37 H_
            replace HS : St W (owns []) W37 [row (some ⟨g36, 0, none⟩) 0 0 (ci .i64 ([])) 3 1, row (some ⟨g34, 0, none⟩) 0 0 (ci .i64 ([])) 3 1, blk k8 [.int .i64 0, .map none, .pointer none] 83, row A10 0 c11 (cp ([] : List Pp)) 22 1] := H_.cast_ (by kernel_rfl)
            clear H_
            refine ql (.slice (some ⟨g34, 0, none⟩) 0 0) (by kernel_rfl) (by kernel_rfl) ?_
            refine ql (.slice (some ⟨g36, 0, none⟩) 0 0) (by kernel_rfl) (by kernel_rfl) ?_
            refine wpList_nil ?_
            refine x_then ?_
            refine wp_seq ?_
            refine wp_seq ?_
            refine wp_region_lit ?_
            refine ql (.int .i64 0) (by kernel_rfl) (by kernel_rfl) ?_
            refine wpList_nil ?_
            refine x_then ?_
            refine wp_block ?_
            replace HS : St W (owns []) W37 [blk k8 [.int .i64 0, .map none, .pointer none] 83, row A10 0 c11 (cp ([] : List Pp)) 22 1, row (some ⟨g34, 0, none⟩) 0 0 (ci .i64 ([])) 3 1, row (some ⟨g36, 0, none⟩) 0 0 (ci .i64 ([])) 3 1] := St.tail (F := []) (HS.perm (perm_ [2, 3, 1, 0] (by kernel_rfl) rfl))
            refine wp_loop_ghost (fun kq a' w' => ∃ (J38 : Nat → Value) (r : Int) (L1 : List Int) (L2 : List Int) (A1 : Option Addr) (c1 : Nat) (A2 : Option Addr) (c2 : Nat) , a' = Fr ((.int .i64 n) :: (.slice Al l.length cl) :: (.slice Am m.length cm) :: (.int .i64 a) :: (.int .i64 b) :: undef :: undef :: undef :: undef :: undef :: ((u13 10)) :: (.pointer (some ⟨k8, 0, none⟩)) :: (.slice A10 0 c11) :: (.slice A1 L1.length c1) :: (.slice A2 L2.length c2) :: (.int .i64 r) :: (.slice Al l.length cl) :: (.int .i64 (l.length : Int)) :: (.bool false) :: (.bool false) :: (.slice Am m.length cm) :: (.int .i64 (m.length : Int)) :: (.bool false) :: (.bool false) :: (.bool false) :: (.int .i64 n) :: (.bool true) :: (.bool true) :: (.int .i64 n) :: (.bool false) :: (.bool false) :: (.bool false) :: undef :: (.int .i64 n) :: (.slice Al l.length cl) :: (.pointer (some ⟨k8, 0, none⟩)) :: (.int .i64 n) :: (.slice Al l.length cl) :: (.slice A10 0 c11) :: ((u13 39)) :: ((u13 40)) :: ((u13 41)) :: ((u13 42)) :: ((u13 43)) :: ((u13 44)) :: ((u13 45)) :: ((u13 46)) :: ((u13 47)) :: ((u13 48)) :: ((u13 49)) :: ((u13 50)) :: ((u13 51)) :: ((u13 52)) :: ((u13 53)) :: ((u13 54)) :: ((u13 55)) :: ((u13 56)) :: ((u13 57)) :: ((u13 58)) :: ((u13 59)) :: ((u13 60)) :: ((u13 61)) :: ((u13 62)) :: ((u13 63)) :: ((u13 64)) :: ((u13 65)) :: ((u13 66)) :: ((u13 67)) :: ((u13 68)) :: ((u13 69)) :: ((u13 70)) :: ((u13 71)) :: ((u13 72)) :: ((u13 73)) :: ((u13 74)) :: ((u13 75)) :: ((u13 76)) :: ((u13 77)) :: ((u13 78)) :: ((u13 79)) :: ((u13 80)) :: ((u13 81)) :: ((u13 82)) :: ((u13 83)) :: ((u13 84)) :: ((u13 85)) :: ((u13 86)) :: ((u13 87)) :: ((u13 88)) :: (.slice (some ⟨g34, 0, none⟩) 0 0) :: (.slice (some ⟨g36, 0, none⟩) 0 0) :: ((J38 91)) :: ((J38 92)) :: ((J38 93)) :: ((J38 94)) :: ((J38 95)) :: ((J38 96)) :: ((J38 97)) :: ((J38 98)) :: ((J38 99)) :: ((J38 100)) :: ((J38 101)) :: ((J38 102)) :: ((J38 103)) :: ((J38 104)) :: ((J38 105)) :: ((J38 106)) :: ((J38 107)) :: ((J38 108)) :: ((J38 109)) :: ((J38 110)) :: ((J38 111)) :: ((J38 112)) :: undef :: undef :: undef :: undef :: undef :: undef :: undef :: undef :: undef :: undef :: undef :: undef :: undef :: undef :: undef :: []) ∧ kq = ((0 - r).toNat) ∧ (0 ≤ r) ∧ (r ≤ 0) ∧ (L1 = subsL 0 l a r) ∧ (L2 = supsL 0 l a r) ∧ St W (owns []) w' [blk k8 [.int .i64 0, .map none, .pointer none] 83, row A10 0 c11 (cp ([] : List Pp)) 22 1, row A1 L1.length c1 (ci .i64 L1) 3 1, row A2 L2.length c2 (ci .i64 L2) 3 1]) ((0 - (0 : Int)).toNat) ⟨(fun k_ : Nat => List.getD ((.int .i64 n) :: (.slice Al l.length cl) :: (.slice Am m.length cm) :: (.int .i64 a) :: (.int .i64 b) :: undef :: undef :: undef :: undef :: undef :: ((u13 10)) :: (.pointer (some ⟨k8, 0, none⟩)) :: (.slice A10 0 c11) :: (.slice (some ⟨g34, 0, none⟩) 0 0) :: (.slice (some ⟨g36, 0, none⟩) 0 0) :: (.int .i64 0) :: (.slice Al l.length cl) :: (.int .i64 (l.length : Int)) :: (.bool false) :: (.bool false) :: (.slice Am m.length cm) :: (.int .i64 (m.length : Int)) :: (.bool false) :: (.bool false) :: (.bool false) :: (.int .i64 n) :: (.bool true) :: (.bool true) :: (.int .i64 n) :: (.bool false) :: (.bool false) :: (.bool false) :: undef :: (.int .i64 n) :: (.slice Al l.length cl) :: (.pointer (some ⟨k8, 0, none⟩)) :: (.int .i64 n) :: (.slice Al l.length cl) :: (.slice A10 0 c11) :: ((u13 39)) :: ((u13 40)) :: ((u13 41)) :: ((u13 42)) :: ((u13 43)) :: ((u13 44)) :: ((u13 45)) :: ((u13 46)) :: ((u13 47)) :: ((u13 48)) :: ((u13 49)) :: ((u13 50)) :: ((u13 51)) :: ((u13 52)) :: ((u13 53)) :: ((u13 54)) :: ((u13 55)) :: ((u13 56)) :: ((u13 57)) :: ((u13 58)) :: ((u13 59)) :: ((u13 60)) :: ((u13 61)) :: ((u13 62)) :: ((u13 63)) :: ((u13 64)) :: ((u13 65)) :: ((u13 66)) :: ((u13 67)) :: ((u13 68)) :: ((u13 69)) :: ((u13 70)) :: ((u13 71)) :: ((u13 72)) :: ((u13 73)) :: ((u13 74)) :: ((u13 75)) :: ((u13 76)) :: ((u13 77)) :: ((u13 78)) :: ((u13 79)) :: ((u13 80)) :: ((u13 81)) :: ((u13 82)) :: ((u13 83)) :: ((u13 84)) :: ((u13 85)) :: ((u13 86)) :: ((u13 87)) :: ((u13 88)) :: (.slice (some ⟨g34, 0, none⟩) 0 0) :: (.slice (some ⟨g36, 0, none⟩) 0 0) :: undef :: undef :: undef :: undef :: undef :: undef :: undef :: undef :: undef :: undef :: undef :: undef :: undef :: undef :: undef :: undef :: undef :: undef :: undef :: undef :: undef :: undef :: undef :: undef :: undef :: undef :: undef :: undef :: undef :: undef :: undef :: undef :: undef :: undef :: undef :: undef :: undef :: []) k_ undef), (0 : Int), [], [], some ⟨g34, 0, none⟩, 0, some ⟨g36, 0, none⟩, 0, congrArg Fr (by kernel_rfl), rfl, by omega, by omega, rfl, rfl, HS⟩ ?_
            clear HS
            intro kq39 a' W40 hrel
            obtain ⟨J38, r, L1, L2, A1, c1, A2, c2, rfl, hk, r0, r1, hqsubs, hqsups, HS⟩ := hrel
            have hz1 := subs_len 0 l a r
            have hz2 := sups_len 0 l a r
            rw [← hqsubs] at hz1
            rw [← hqsups] at hz2
            refine wp_seq ?_
            refine wp_seq ?_
            refine wp_region_lit ?_
            refine ql (.int .i64 r) (by kernel_rfl) (by kernel_rfl) ?_
            refine ql (.slice A10 0 c11) (by kernel_rfl) (by kernel_rfl) ?_
            refine ql (.int .i64 0) (by kernel_rfl) (by kernel_rfl) ?_
            by_cases hc41 : r < (0 : Int)
            · skip
              refine ql (.bool true) (by kernel_rfl) (R_bool (p := r < (0 : Int)) (by kernel_rfl) (hc41)) ?_
              refine wpList_nil ?_
              refine x_then ?_
              refine wp_cond_true (by kernel_rfl) ?_
              refine wp_skip ?_
              refine x_then ?_
              refine wp_seq ?_
              refine wp_block ?_
              refine wp_seq ?_
              refine wp_seq ?_
              exfalso; omega
            · skip
              refine ql (.bool false) (by kernel_rfl) (R_nbool (p := r < (0 : Int)) (by kernel_rfl) (hc41)) ?_
              refine wpList_nil ?_
              refine x_then ?_
              refine wp_cond_false (by kernel_rfl) ?_
              refine wp_exit ?_
              refine x_thenE ?_
              refine x_thenE ?_
              refine x_hit ?_
              refine x_then ?_
              refine wp_seq ?_
              refine wp_region_lit ?_
              refine ql (.pointer (some ⟨k8, 0, none⟩)) (by kernel_rfl) (by kernel_rfl) ?_
              refine ql (.int .i64 a) (by kernel_rfl) (by kernel_rfl) ?_
              refine qc (f := 22) (args := #[.pointer (some ⟨k8, 0, none⟩), .int .i64 a]) (by kernel_rfl) (R_call #[.pointer (some ⟨k8, 0, none⟩), .int .i64 a] Try.func22 (by kernel_rfl) (by kernel_rfl) (by kernel_rfl)) ?_
              refine (ksubs0 k8 a _ (HS.cell (i := 0) (j := 0) rfl rfl)).mono ?_
              rintro e W42 ⟨rfl, H_⟩
              refine ⟨_, rfl, ?_⟩
              replace HS : St W (owns []) W42 [blk k8 [.int .i64 0, .map none, .pointer none] 83, row A10 0 c11 (cp ([] : List Pp)) 22 1, row A1 L1.length c1 (ci .i64 L1) 3 1, row A2 L2.length c2 (ci .i64 L2) 3 1] := HS.join (F := []) (G := []) H_
              clear H_
              refine ql (.slice A1 L1.length c1) (by kernel_rfl) (by kernel_rfl) ?_
              refine qc (f := 25) (args := #[.slice none 0 0, .slice A1 L1.length c1]) (by kernel_rfl) (R_call #[.slice none 0 0, .slice A1 L1.length c1] Try.func25 (by kernel_rfl) (by kernel_rfl) (by kernel_rfl)) ?_
              have hssubs : ([] : List Int) = L1 := by rw [hqsubs, show r = 0 by omega]; rfl
              refine (r1same none A1 0 c1 [] L1 _ rd_nil (by decide) (Rd.row HS (i := 2) rfl) (by rw [← hssubs]; decide)).mono ?_
              rintro e W43 ⟨rfl, H_⟩
              rw [decide_eq_true hssubs]
              refine ⟨_, rfl, ?_⟩
              replace HS : St W (owns []) W43 [blk k8 [.int .i64 0, .map none, .pointer none] 83, row A10 0 c11 (cp ([] : List Pp)) 22 1, row A1 L1.length c1 (ci .i64 L1) 3 1, row A2 L2.length c2 (ci .i64 L2) 3 1] := HS.join (F := []) (G := []) H_
              clear H_
              refine ql (.bool true) (by kernel_rfl) (by kernel_rfl) ?_
              refine ql (.pointer (some ⟨k8, 0, none⟩)) (by kernel_rfl) (by kernel_rfl) ?_
              refine ql (.int .i64 a) (by kernel_rfl) (by kernel_rfl) ?_
              refine qc (f := 23) (args := #[.pointer (some ⟨k8, 0, none⟩), .int .i64 a]) (by kernel_rfl) (R_call #[.pointer (some ⟨k8, 0, none⟩), .int .i64 a] Try.func23 (by kernel_rfl) (by kernel_rfl) (by kernel_rfl)) ?_
              refine (ksups0 k8 a _ (HS.cell (i := 0) (j := 0) rfl rfl)).mono ?_
              rintro e W44 ⟨rfl, H_⟩
              refine ⟨_, rfl, ?_⟩
              replace HS : St W (owns []) W44 [blk k8 [.int .i64 0, .map none, .pointer none] 83, row A10 0 c11 (cp ([] : List Pp)) 22 1, row A1 L1.length c1 (ci .i64 L1) 3 1, row A2 L2.length c2 (ci .i64 L2) 3 1] := HS.join (F := []) (G := []) H_
              clear H_
              refine ql (.slice A2 L2.length c2) (by kernel_rfl) (by kernel_rfl) ?_
              refine qc (f := 25) (args := #[.slice none 0 0, .slice A2 L2.length c2]) (by kernel_rfl) (R_call #[.slice none 0 0, .slice A2 L2.length c2] Try.func25 (by kernel_rfl) (by kernel_rfl) (by kernel_rfl)) ?_
              have hssups : ([] : List Int) = L2 := by rw [hqsups, show r = 0 by omega]; rfl
              refine (r1same none A2 0 c2 [] L2 _ rd_nil (by decide) (Rd.row HS (i := 3) rfl) (by rw [← hssups]; decide)).mono ?_
              rintro e W45 ⟨rfl, H_⟩
              rw [decide_eq_true hssups]
              refine ⟨_, rfl, ?_⟩
              replace HS : St W (owns []) W45 [blk k8 [.int .i64 0, .map none, .pointer none] 83, row A10 0 c11 (cp ([] : List Pp)) 22 1, row A1 L1.length c1 (ci .i64 L1) 3 1, row A2 L2.length c2 (ci .i64 L2) 3 1] := HS.join (F := []) (G := []) H_
              clear H_
              refine ql (.bool true) (by kernel_rfl) (by kernel_rfl) ?_
              refine ql (.bool true) (by kernel_rfl) (by kernel_rfl) ?_
              refine qc (f := 18) (args := #[]) (by kernel_rfl) (R_call #[] Try.func18 (by kernel_rfl) (by kernel_rfl) (by kernel_rfl)) ?_
              refine (kawake _).mono ?_
              rintro e W46 ⟨rfl, H_⟩
              refine ⟨_, rfl, ?_⟩
              replace HS : St W (owns []) W46 [blk k8 [.int .i64 0, .map none, .pointer none] 83, row A10 0 c11 (cp ([] : List Pp)) 22 1, row A1 L1.length c1 (ci .i64 L1) 3 1, row A2 L2.length c2 (ci .i64 L2) 3 1] := HS.join (F := []) (G := []) H_
              clear H_
              refine ql (.bool true) (by kernel_rfl) (by kernel_rfl) ?_
              refine ql (.bool true) (by kernel_rfl) (by kernel_rfl) ?_
              refine wpList_nil ?_
              refine x_then ?_
              refine wp_ret ?_
              refine ret_ (.bool true) (by kernel_rfl) ?_
              replace HS := HS.drop1
              replace HS := HS.drop1
              replace HS := HS.drop1
              replace HS := HS.drop1
              exact ⟨rfl, HS⟩
      · skip
        refine ql (.bool false) (by kernel_rfl) (R_nbool (p := n > (12 : Int)) (by kernel_rfl) (hc5)) ?_
        refine ql (.bool false) (by kernel_rfl) (by kernel_rfl) ?_
        refine qln (by kernel_rfl) ?_
        refine qln (by kernel_rfl) ?_
        refine ql (.bool false) (by kernel_rfl) (by kernel_rfl) ?_
        refine ql (.bool false) (by kernel_rfl) (by kernel_rfl) ?_
        refine wpList_nil ?_
        refine x_then ?_
        refine wp_cond_false (by kernel_rfl) ?_
        refine wp_skip ?_
        refine x_then ?_
        refine wp_seq ?_
        refine wp_region_lit ?_
        refine ql (.int .i64 n) (by kernel_rfl) (by kernel_rfl) ?_
        refine ql (.slice Al l.length cl) (by kernel_rfl) (by kernel_rfl) ?_
        refine qc (f := 19) (args := #[.int .i64 n, .slice Al l.length cl]) (by kernel_rfl) (R_call #[.int .i64 n, .slice Al l.length cl] Try.func19 (by kernel_rfl) (by kernel_rfl) (by kernel_rfl)) ?_
        by_cases hn0 : n < 0
        · skip
          refine (kof0a n Al cl l _ (by omega)).mono ?_
          rintro e W48 ⟨k47, rfl, H_⟩
          refine ⟨_, rfl, ?_⟩
          replace HS : St W (owns []) W48 [blk k47 [.int .i64 0, .map none, .pointer none] 83] := HS.join (F := []) (G := [blk k47 [.int .i64 0, .map none, .pointer none] 83]) H_
          clear H_
          refine ql (.pointer (some ⟨k47, 0, none⟩)) (by kernel_rfl) (by kernel_rfl) ?_
          refine wpList_nil ?_
          refine x_then ?_
          refine wp_seq ?_
          refine wp_region_lit ?_
          refine ql (.int .i64 n) (by kernel_rfl) (by kernel_rfl) ?_
          refine ql (.slice Al l.length cl) (by kernel_rfl) (by kernel_rfl) ?_
          refine qc (f := 35) (args := #[.int .i64 n, .slice Al l.length cl]) (by kernel_rfl) (R_call #[.int .i64 n, .slice Al l.length cl] Try.func35 (by kernel_rfl) (by kernel_rfl) (by kernel_rfl)) ?_
          refine (r31of0a n Al cl l _ (by omega)).mono ?_
          rintro e W51 ⟨A49, c50, rfl, H_⟩
          refine ⟨_, rfl, ?_⟩
          replace HS : St W (owns []) W51 [row A49 0 c50 (cp ([] : List Pp)) 22 1, blk k47 [.int .i64 0, .map none, .pointer none] 83] := HS.join (F := []) (G := [row A49 0 c50 (cp ([] : List Pp)) 22 1]) H_
          clear H_
          refine ql (.slice A49 0 c50) (by kernel_rfl) (by kernel_rfl) ?_
          refine wpList_nil ?_
          refine x_then ?_
          refine wp_seq_cut (fun a' w' => ∃ (u52 : Nat → Value) , a' = Fr ((.int .i64 n) :: (.slice Al l.length cl) :: (.slice Am m.length cm) :: (.int .i64 a) :: (.int .i64 b) :: undef :: undef :: undef :: undef :: undef :: ((u52 10)) :: (.pointer (some ⟨k47, 0, none⟩)) :: (.slice A49 0 c50) :: undef :: undef :: undef :: (.slice Al l.length cl) :: (.int .i64 (l.length : Int)) :: (.bool false) :: (.bool false) :: (.slice Am m.length cm) :: (.int .i64 (m.length : Int)) :: (.bool false) :: (.bool false) :: (.bool false) :: (.int .i64 n) :: (.bool false) :: (.bool false) :: undef :: undef :: (.bool false) :: (.bool false) :: undef :: (.int .i64 n) :: (.slice Al l.length cl) :: (.pointer (some ⟨k47, 0, none⟩)) :: (.int .i64 n) :: (.slice Al l.length cl) :: (.slice A49 0 c50) :: ((u52 39)) :: ((u52 40)) :: ((u52 41)) :: ((u52 42)) :: ((u52 43)) :: ((u52 44)) :: ((u52 45)) :: ((u52 46)) :: ((u52 47)) :: ((u52 48)) :: ((u52 49)) :: ((u52 50)) :: ((u52 51)) :: ((u52 52)) :: ((u52 53)) :: ((u52 54)) :: ((u52 55)) :: ((u52 56)) :: ((u52 57)) :: ((u52 58)) :: ((u52 59)) :: ((u52 60)) :: ((u52 61)) :: ((u52 62)) :: ((u52 63)) :: ((u52 64)) :: ((u52 65)) :: ((u52 66)) :: ((u52 67)) :: ((u52 68)) :: ((u52 69)) :: ((u52 70)) :: ((u52 71)) :: ((u52 72)) :: ((u52 73)) :: ((u52 74)) :: ((u52 75)) :: ((u52 76)) :: ((u52 77)) :: ((u52 78)) :: ((u52 79)) :: ((u52 80)) :: ((u52 81)) :: ((u52 82)) :: ((u52 83)) :: ((u52 84)) :: ((u52 85)) :: ((u52 86)) :: ((u52 87)) :: ((u52 88)) :: undef :: undef :: undef :: undef :: undef :: undef :: undef :: undef :: undef :: undef :: undef :: undef :: undef :: undef :: undef :: undef :: undef :: undef :: undef :: undef :: undef :: undef :: undef :: undef :: undef :: undef :: undef :: undef :: undef :: undef :: undef :: undef :: undef :: undef :: undef :: undef :: undef :: undef :: undef :: []) ∧ St W (owns []) w' [blk k47 [.int .i64 0, .map none, .pointer none] 83, row A49 0 c50 (cp ([] : List Pp)) 22 1]) ?_ ?_
          · skip
            refine wp_seq ?_
            refine wp_region_lit ?_
            refine ql (.pointer (some ⟨k47, 0, none⟩)) (by kernel_rfl) (by kernel_rfl) ?_
            refine qc (f := 36) (args := #[.pointer (some ⟨k47, 0, none⟩)]) (by kernel_rfl) (R_call #[.pointer (some ⟨k47, 0, none⟩)] Try.func36 (by kernel_rfl) (by kernel_rfl) (by kernel_rfl)) ?_
            refine (klen k47 0 _ (HS.cell (i := 1) (j := 0) rfl rfl)).mono ?_
            rintro e W53 ⟨rfl, H_⟩
            refine ⟨_, rfl, ?_⟩
            replace HS : St W (owns []) W53 [row A49 0 c50 (cp ([] : List Pp)) 22 1, blk k47 [.int .i64 0, .map none, .pointer none] 83] := HS.join (F := []) (G := []) H_
            clear H_
            refine ql (.slice A49 0 c50) (by kernel_rfl) (by kernel_rfl) ?_
            refine ql (.int .i64 0) (by kernel_rfl) (by kernel_rfl) ?_
            refine ql (.bool false) (by kernel_rfl) (R_beq (b := ((0 : Int) != 0)) (by kernel_rfl) (by decide)) ?_
            refine ql (.bool false) (by kernel_rfl) (by kernel_rfl) ?_
            refine ql (.pointer (some ⟨k47, 0, none⟩)) (by kernel_rfl) (by kernel_rfl) ?_
            refine ql (.int .i64 a) (by kernel_rfl) (by kernel_rfl) ?_
            refine ql (.int .i64 b) (by kernel_rfl) (by kernel_rfl) ?_
            refine qc (f := 21) (args := #[.pointer (some ⟨k47, 0, none⟩), .int .i64 a, .int .i64 b]) (by kernel_rfl) (R_call #[.pointer (some ⟨k47, 0, none⟩), .int .i64 a, .int .i64 b] Try.func21 (by kernel_rfl) (by kernel_rfl) (by kernel_rfl)) ?_
            refine (khas0 k47 a b _ (HS.cell (i := 1) (j := 0) rfl rfl)).mono ?_
            rintro e W54 ⟨rfl, H_⟩
            refine ⟨_, rfl, ?_⟩
            replace HS : St W (owns []) W54 [row A49 0 c50 (cp ([] : List Pp)) 22 1, blk k47 [.int .i64 0, .map none, .pointer none] 83] := HS.join (F := []) (G := []) H_
            clear H_
            refine ql (.slice A49 0 c50) (by kernel_rfl) (by kernel_rfl) ?_
            refine ql (.int .i64 a) (by kernel_rfl) (by kernel_rfl) ?_
            refine ql (.int .i64 b) (by kernel_rfl) (by kernel_rfl) ?_
            refine qc (f := 37) (args := #[.slice A49 0 c50, .int .i64 a, .int .i64 b]) (by kernel_rfl) (R_call #[.slice A49 0 c50, .int .i64 a, .int .i64 b] Try.func37 (by kernel_rfl) (by kernel_rfl) (by kernel_rfl)) ?_
            refine (r31has A49 c50 [] 0 l a b _ (Rd.row HS (i := 0) rfl) (fun p hp => (nomatch hp)) (rm_nil l) (by omega)).mono ?_
            rintro e W55 ⟨rfl, H_⟩
            rw [knB_0]
            refine ⟨_, rfl, ?_⟩
            replace HS : St W (owns []) W55 [row A49 0 c50 (cp ([] : List Pp)) 22 1, blk k47 [.int .i64 0, .map none, .pointer none] 83] := HS.join (F := []) (G := []) H_
            clear H_
            refine ql (.bool false) (by kernel_rfl) (by kernel_rfl) ?_
            refine ql (.bool false) (by kernel_rfl) (by kernel_rfl) ?_
            refine ql (.bool false) (by kernel_rfl) (by kernel_rfl) ?_
            refine ql (.pointer (some ⟨k47, 0, none⟩)) (by kernel_rfl) (by kernel_rfl) ?_
            refine ql (.int .i64 a) (by kernel_rfl) (by kernel_rfl) ?_
            refine ql (.int .i64 b) (by kernel_rfl) (by kernel_rfl) ?_
            refine qc (f := 20) (args := #[.pointer (some ⟨k47, 0, none⟩), .int .i64 a, .int .i64 b]) (by kernel_rfl) (R_call #[.pointer (some ⟨k47, 0, none⟩), .int .i64 a, .int .i64 b] Try.func20 (by kernel_rfl) (by kernel_rfl) (by kernel_rfl)) ?_
            refine (kalike0 k47 a b _ (HS.cell (i := 1) (j := 0) rfl rfl)).mono ?_
            rintro e W56 ⟨rfl, H_⟩
            refine ⟨_, rfl, ?_⟩
            replace HS : St W (owns []) W56 [row A49 0 c50 (cp ([] : List Pp)) 22 1, blk k47 [.int .i64 0, .map none, .pointer none] 83] := HS.join (F := []) (G := []) H_
            clear H_
            refine ql (.slice A49 0 c50) (by kernel_rfl) (by kernel_rfl) ?_
            refine ql (.int .i64 a) (by kernel_rfl) (by kernel_rfl) ?_
            refine ql (.int .i64 b) (by kernel_rfl) (by kernel_rfl) ?_
            refine qc (f := 37) (args := #[.slice A49 0 c50, .int .i64 a, .int .i64 b]) (by kernel_rfl) (R_call #[.slice A49 0 c50, .int .i64 a, .int .i64 b] Try.func37 (by kernel_rfl) (by kernel_rfl) (by kernel_rfl)) ?_
            refine (r31has A49 c50 [] 0 l a b _ (Rd.row HS (i := 0) rfl) (fun p hp => (nomatch hp)) (rm_nil l) (by omega)).mono ?_
            rintro e W57 ⟨rfl, H_⟩
            rw [knB_0]
            refine ⟨_, rfl, ?_⟩
            replace HS : St W (owns []) W57 [row A49 0 c50 (cp ([] : List Pp)) 22 1, blk k47 [.int .i64 0, .map none, .pointer none] 83] := HS.join (F := []) (G := []) H_
            clear H_
            refine ql (.bool false) (by kernel_rfl) (by kernel_rfl) ?_
            refine qln (by kernel_rfl) ?_
            refine qln (by kernel_rfl) ?_
            refine qln (by kernel_rfl) ?_
            refine qln (by kernel_rfl) ?_
            refine ql (.bool false) (by kernel_rfl) (by kernel_rfl) ?_
            refine ql (.bool false) (by kernel_rfl) (by kernel_rfl) ?_
            refine ql (.bool false) (by kernel_rfl) (by kernel_rfl) ?_
            refine ql (.bool false) (by kernel_rfl) (by kernel_rfl) ?_
            refine ql (.pointer (some ⟨k47, 0, none⟩)) (by kernel_rfl) (by kernel_rfl) ?_
            refine ql (.slice Am m.length cm) (by kernel_rfl) (by kernel_rfl) ?_
            refine qc (f := 38) (args := #[.pointer (some ⟨k47, 0, none⟩), .slice Am m.length cm]) (by kernel_rfl) (R_call #[.pointer (some ⟨k47, 0, none⟩), .slice Am m.length cm] Try.func38 (by kernel_rfl) (by kernel_rfl) (by kernel_rfl)) ?_
            by_cases hall : allK 0 l m = true
            · skip
              refine (kall0 k47 l Am cm m _ (HS.cell (i := 1) (j := 0) rfl rfl) (hrb.old0 HS) (by omega)).mono ?_
              rintro e W58 ⟨rfl, H_⟩
              rw [hall]
              refine ⟨_, rfl, ?_⟩
              replace HS : St W (owns []) W58 [row A49 0 c50 (cp ([] : List Pp)) 22 1, blk k47 [.int .i64 0, .map none, .pointer none] 83] := HS.join (F := []) (G := []) H_
              clear H_
              refine ql (.slice A49 0 c50) (by kernel_rfl) (by kernel_rfl) ?_
              refine ql (.slice Am m.length cm) (by kernel_rfl) (by kernel_rfl) ?_
              refine qc (f := 39) (args := #[.slice A49 0 c50, .slice Am m.length cm]) (by kernel_rfl) (R_call #[.slice A49 0 c50, .slice Am m.length cm] Try.func39 (by kernel_rfl) (by kernel_rfl) (by kernel_rfl)) ?_
              refine (r31all A49 c50 [] 0 l Am cm m _ (Rd.row HS (i := 0) rfl) (fun p hp => (nomatch hp)) (rm_nil l) (by omega) (hrb.old0 HS) (by omega)).mono ?_
              rintro e W59 ⟨rfl, H_⟩
              rw [hall]
              refine ⟨_, rfl, ?_⟩
              replace HS : St W (owns []) W59 [row A49 0 c50 (cp ([] : List Pp)) 22 1, blk k47 [.int .i64 0, .map none, .pointer none] 83] := HS.join (F := []) (G := []) H_
              clear H_
              refine ql (.bool false) (by kernel_rfl) (by kernel_rfl) ?_
              refine ql (.bool false) (by kernel_rfl) (by kernel_rfl) ?_
              refine ql (.bool false) (by kernel_rfl) (by kernel_rfl) ?_
              refine ql (.pointer (some ⟨k47, 0, none⟩)) (by kernel_rfl) (by kernel_rfl) ?_
              refine qc (f := 41) (args := #[.pointer (some ⟨k47, 0, none⟩)]) (by kernel_rfl) (R_call #[.pointer (some ⟨k47, 0, none⟩)] Try.func41 (by kernel_rfl) (by kernel_rfl) (by kernel_rfl)) ?_
              refine (kbnd0 k47 _ (HS.cell (i := 1) (j := 0) rfl rfl)).mono ?_
              rintro e W60 ⟨rfl, H_⟩
              refine ⟨_, rfl, ?_⟩
              replace HS : St W (owns []) W60 [row A49 0 c50 (cp ([] : List Pp)) 22 1, blk k47 [.int .i64 0, .map none, .pointer none] 83] := HS.join (F := []) (G := []) H_
              clear H_
              refine ql (.slice A49 0 c50) (by kernel_rfl) (by kernel_rfl) ?_
              refine qc (f := 42) (args := #[.slice A49 0 c50]) (by kernel_rfl) (R_call #[.slice A49 0 c50] Try.func42 (by kernel_rfl) (by kernel_rfl) (by kernel_rfl)) ?_
              refine (r31bnd A49 c50 [] 0 l _ (Rd.row HS (i := 0) rfl) (fun p hp => (nomatch hp)) (rm_nil l) (by omega)).mono ?_
              rintro e W63 ⟨A61, c62, rfl, H_⟩
              refine ⟨_, rfl, ?_⟩
              replace HS : St W (owns []) W63 [row A61 ((bndL 0 l).length) c62 (cf prC (bndL 0 l)) 79 2, row A49 0 c50 (cp ([] : List Pp)) 22 1, blk k47 [.int .i64 0, .map none, .pointer none] 83] := HS.join (F := []) (G := [row A61 ((bndL 0 l).length) c62 (cf prC (bndL 0 l)) 79 2]) H_
              clear H_
              refine qc (f := 40) (args := #[.slice none 0 0, .slice A61 ((bndL 0 l).length) c62]) (by kernel_rfl) (R_call #[.slice none 0 0, .slice A61 ((bndL 0 l).length) c62] Try.func40 (by kernel_rfl) (by kernel_rfl) (by kernel_rfl)) ?_
              refine (r17b none A61 0 c62 [] [] _ rd_nilP (Rd.row HS (i := 0) rfl) (by decide) (by decide)).mono ?_
              rintro e W64 ⟨rfl, H_⟩
              rw [decide_eq_true rfl]
              refine ⟨_, rfl, ?_⟩
              replace HS : St W (owns []) W64 [row A61 ((bndL 0 l).length) c62 (cf prC (bndL 0 l)) 79 2, row A49 0 c50 (cp ([] : List Pp)) 22 1, blk k47 [.int .i64 0, .map none, .pointer none] 83] := HS.join (F := []) (G := []) H_
              clear H_
              refine ql (.bool false) (by kernel_rfl) (by kernel_rfl) ?_
              refine ql (.bool false) (by kernel_rfl) (by kernel_rfl) ?_
              refine wpList_nil ?_
              refine x_then ?_
              refine wp_cond_false (by kernel_rfl) ?_
              refine wp_skip ?_
              replace HS : St W (owns []) W64 [blk k47 [.int .i64 0, .map none, .pointer none] 83, row A49 0 c50 (cp ([] : List Pp)) 22 1] := St.tail (F := [row A61 ((bndL 0 l).length) c62 (cf prC (bndL 0 l)) 79 2]) (HS.perm (perm_ [0, 2, 1] (by kernel_rfl) rfl))
              refine x_then ?_
              exact ⟨(fun k_ : Nat => List.getD ((.int .i64 n) :: (.slice Al l.length cl) :: (.slice Am m.length cm) :: (.int .i64 a) :: (.int .i64 b) :: undef :: undef :: undef :: undef :: undef :: (.bool false) :: (.pointer (some ⟨k47, 0, none⟩)) :: (.slice A49 0 c50) :: undef :: undef :: undef :: (.slice Al l.length cl) :: (.int .i64 (l.length : Int)) :: (.bool false) :: (.bool false) :: (.slice Am m.length cm) :: (.int .i64 (m.length : Int)) :: (.bool false) :: (.bool false) :: (.bool false) :: (.int .i64 n) :: (.bool false) :: (.bool false) :: undef :: undef :: (.bool false) :: (.bool false) :: undef :: (.int .i64 n) :: (.slice Al l.length cl) :: (.pointer (some ⟨k47, 0, none⟩)) :: (.int .i64 n) :: (.slice Al l.length cl) :: (.slice A49 0 c50) :: (.pointer (some ⟨k47, 0, none⟩)) :: (.int .i64 0) :: (.slice A49 0 c50) :: (.int .i64 0) :: (.bool false) :: (.bool false) :: (.pointer (some ⟨k47, 0, none⟩)) :: (.int .i64 a) :: (.int .i64 b) :: (.bool false) :: (.slice A49 0 c50) :: (.int .i64 a) :: (.int .i64 b) :: (.bool false) :: (.bool false) :: (.bool false) :: (.bool false) :: (.pointer (some ⟨k47, 0, none⟩)) :: (.int .i64 a) :: (.int .i64 b) :: (.bool false) :: (.slice A49 0 c50) :: (.int .i64 a) :: (.int .i64 b) :: (.bool false) :: (.bool false) :: undef :: undef :: undef :: undef :: (.bool false) :: (.bool false) :: (.bool false) :: (.bool false) :: (.pointer (some ⟨k47, 0, none⟩)) :: (.slice Am m.length cm) :: (.bool true) :: (.slice A49 0 c50) :: (.slice Am m.length cm) :: (.bool true) :: (.bool false) :: (.bool false) :: (.bool false) :: (.pointer (some ⟨k47, 0, none⟩)) :: (.slice none 0 0) :: (.slice A49 0 c50) :: (.slice A61 ((bndL 0 l).length) c62) :: (.bool true) :: (.bool false) :: (.bool false) :: undef :: undef :: undef :: undef :: undef :: undef :: undef :: undef :: undef :: undef :: undef :: undef :: undef :: undef :: undef :: undef :: undef :: undef :: undef :: undef :: undef :: undef :: undef :: undef :: undef :: undef :: undef :: undef :: undef :: undef :: undef :: undef :: undef :: undef :: undef :: undef :: undef :: undef :: undef :: []) k_ undef), congrArg Fr (by kernel_rfl), HS⟩
            · skip
              refine (kall0 k47 l Am cm m _ (HS.cell (i := 1) (j := 0) rfl rfl) (hrb.old0 HS) (by omega)).mono ?_
              rintro e W65 ⟨rfl, H_⟩
              rw [Bool.eq_false_iff.2 hall]
              refine ⟨_, rfl, ?_⟩
              replace HS : St W (owns []) W65 [row A49 0 c50 (cp ([] : List Pp)) 22 1, blk k47 [.int .i64 0, .map none, .pointer none] 83] := HS.join (F := []) (G := []) H_
              clear H_
              refine ql (.slice A49 0 c50) (by kernel_rfl) (by kernel_rfl) ?_
              refine ql (.slice Am m.length cm) (by kernel_rfl) (by kernel_rfl) ?_
              refine qc (f := 39) (args := #[.slice A49 0 c50, .slice Am m.length cm]) (by kernel_rfl) (R_call #[.slice A49 0 c50, .slice Am m.length cm] Try.func39 (by kernel_rfl) (by kernel_rfl) (by kernel_rfl)) ?_
              refine (r31all A49 c50 [] 0 l Am cm m _ (Rd.row HS (i := 0) rfl) (fun p hp => (nomatch hp)) (rm_nil l) (by omega) (hrb.old0 HS) (by omega)).mono ?_
              rintro e W66 ⟨rfl, H_⟩
              rw [Bool.eq_false_iff.2 hall]
              refine ⟨_, rfl, ?_⟩
              replace HS : St W (owns []) W66 [row A49 0 c50 (cp ([] : List Pp)) 22 1, blk k47 [.int .i64 0, .map none, .pointer none] 83] := HS.join (F := []) (G := []) H_
              clear H_
              refine ql (.bool false) (by kernel_rfl) (by kernel_rfl) ?_
              refine ql (.bool false) (by kernel_rfl) (by kernel_rfl) ?_
              refine ql (.bool false) (by kernel_rfl) (by kernel_rfl) ?_
              refine ql (.pointer (some ⟨k47, 0, none⟩)) (by kernel_rfl) (by kernel_rfl) ?_
              refine qc (f := 41) (args := #[.pointer (some ⟨k47, 0, none⟩)]) (by kernel_rfl) (R_call #[.pointer (some ⟨k47, 0, none⟩)] Try.func41 (by kernel_rfl) (by kernel_rfl) (by kernel_rfl)) ?_
              refine (kbnd0 k47 _ (HS.cell (i := 1) (j := 0) rfl rfl)).mono ?_
              rintro e W67 ⟨rfl, H_⟩
              refine ⟨_, rfl, ?_⟩
              replace HS : St W (owns []) W67 [row A49 0 c50 (cp ([] : List Pp)) 22 1, blk k47 [.int .i64 0, .map none, .pointer none] 83] := HS.join (F := []) (G := []) H_
              clear H_
              refine ql (.slice A49 0 c50) (by kernel_rfl) (by kernel_rfl) ?_
              refine qc (f := 42) (args := #[.slice A49 0 c50]) (by kernel_rfl) (R_call #[.slice A49 0 c50] Try.func42 (by kernel_rfl) (by kernel_rfl) (by kernel_rfl)) ?_
              refine (r31bnd A49 c50 [] 0 l _ (Rd.row HS (i := 0) rfl) (fun p hp => (nomatch hp)) (rm_nil l) (by omega)).mono ?_
              rintro e W70 ⟨A68, c69, rfl, H_⟩
              refine ⟨_, rfl, ?_⟩
              replace HS : St W (owns []) W70 [row A68 ((bndL 0 l).length) c69 (cf prC (bndL 0 l)) 79 2, row A49 0 c50 (cp ([] : List Pp)) 22 1, blk k47 [.int .i64 0, .map none, .pointer none] 83] := HS.join (F := []) (G := [row A68 ((bndL 0 l).length) c69 (cf prC (bndL 0 l)) 79 2]) H_
              clear H_
              refine qc (f := 40) (args := #[.slice none 0 0, .slice A68 ((bndL 0 l).length) c69]) (by kernel_rfl) (R_call #[.slice none 0 0, .slice A68 ((bndL 0 l).length) c69] Try.func40 (by kernel_rfl) (by kernel_rfl) (by kernel_rfl)) ?_
              refine (r17b none A68 0 c69 [] [] _ rd_nilP (Rd.row HS (i := 0) rfl) (by decide) (by decide)).mono ?_
              rintro e W71 ⟨rfl, H_⟩
              rw [decide_eq_true rfl]
              refine ⟨_, rfl, ?_⟩
              replace HS : St W (owns []) W71 [row A68 ((bndL 0 l).length) c69 (cf prC (bndL 0 l)) 79 2, row A49 0 c50 (cp ([] : List Pp)) 22 1, blk k47 [.int .i64 0, .map none, .pointer none] 83] := HS.join (F := []) (G := []) H_
              clear H_
              refine ql (.bool false) (by kernel_rfl) (by kernel_rfl) ?_
              refine ql (.bool false) (by kernel_rfl) (by kernel_rfl) ?_
              refine wpList_nil ?_
              refine x_then ?_
              refine wp_cond_false (by kernel_rfl) ?_
              refine wp_skip ?_
              replace HS : St W (owns []) W71 [blk k47 [.int .i64 0, .map none, .pointer none] 83, row A49 0 c50 (cp ([] : List Pp)) 22 1] := St.tail (F := [row A68 ((bndL 0 l).length) c69 (cf prC (bndL 0 l)) 79 2]) (HS.perm (perm_ [0, 2, 1] (by kernel_rfl) rfl))
              refine x_then ?_
              exact ⟨(fun k_ : Nat => List.getD ((.int .i64 n) :: (.slice Al l.length cl) :: (.slice Am m.length cm) :: (.int .i64 a) :: (.int .i64 b) :: undef :: undef :: undef :: undef :: undef :: (.bool false) :: (.pointer (some ⟨k47, 0, none⟩)) :: (.slice A49 0 c50) :: undef :: undef :: undef :: (.slice Al l.length cl) :: (.int .i64 (l.length : Int)) :: (.bool false) :: (.bool false) :: (.slice Am m.length cm) :: (.int .i64 (m.length : Int)) :: (.bool false) :: (.bool false) :: (.bool false) :: (.int .i64 n) :: (.bool false) :: (.bool false) :: undef :: undef :: (.bool false) :: (.bool false) :: undef :: (.int .i64 n) :: (.slice Al l.length cl) :: (.pointer (some ⟨k47, 0, none⟩)) :: (.int .i64 n) :: (.slice Al l.length cl) :: (.slice A49 0 c50) :: (.pointer (some ⟨k47, 0, none⟩)) :: (.int .i64 0) :: (.slice A49 0 c50) :: (.int .i64 0) :: (.bool false) :: (.bool false) :: (.pointer (some ⟨k47, 0, none⟩)) :: (.int .i64 a) :: (.int .i64 b) :: (.bool false) :: (.slice A49 0 c50) :: (.int .i64 a) :: (.int .i64 b) :: (.bool false) :: (.bool false) :: (.bool false) :: (.bool false) :: (.pointer (some ⟨k47, 0, none⟩)) :: (.int .i64 a) :: (.int .i64 b) :: (.bool false) :: (.slice A49 0 c50) :: (.int .i64 a) :: (.int .i64 b) :: (.bool false) :: (.bool false) :: undef :: undef :: undef :: undef :: (.bool false) :: (.bool false) :: (.bool false) :: (.bool false) :: (.pointer (some ⟨k47, 0, none⟩)) :: (.slice Am m.length cm) :: (.bool false) :: (.slice A49 0 c50) :: (.slice Am m.length cm) :: (.bool false) :: (.bool false) :: (.bool false) :: (.bool false) :: (.pointer (some ⟨k47, 0, none⟩)) :: (.slice none 0 0) :: (.slice A49 0 c50) :: (.slice A68 ((bndL 0 l).length) c69) :: (.bool true) :: (.bool false) :: (.bool false) :: undef :: undef :: undef :: undef :: undef :: undef :: undef :: undef :: undef :: undef :: undef :: undef :: undef :: undef :: undef :: undef :: undef :: undef :: undef :: undef :: undef :: undef :: undef :: undef :: undef :: undef :: undef :: undef :: undef :: undef :: undef :: undef :: undef :: undef :: undef :: undef :: undef :: undef :: undef :: []) k_ undef), congrArg Fr (by kernel_rfl), HS⟩
          · clear HS
            rintro a' W72 ⟨u52, rfl, HS⟩
            refine wp_seq ?_
            refine wp_region_lit ?_
            refine kl HS 0 [] 3 1 (by kernel_rfl) (by kernel_rfl) rfl (by decide) ?_
            intro g73 W74 H_
            replace HS : St W (owns []) W74 [row (some ⟨g73, 0, none⟩) 0 0 (ci .i64 ([])) 3 1, blk k47 [.int .i64 0, .map none, .pointer none] 83, row A49 0 c50 (cp ([] : List Pp)) 22 1] := H_.cast_ (by kernel_rfl)
            clear H_
            refine kl HS 0 [] 3 1 (by kernel_rfl) (by kernel_rfl) rfl (by decide) ?_
            intro g75 W76 H_
            replace HS : St W (owns []) W76 [row (some ⟨g75, 0, none⟩) 0 0 (ci .i64 ([])) 3 1, row (some ⟨g73, 0, none⟩) 0 0 (ci .i64 ([])) 3 1, blk k47 [.int .i64 0, .map none, .pointer none] 83, row A49 0 c50 (cp ([] : List Pp)) 22 1] := H_.cast_ (by kernel_rfl)
            clear H_
            refine ql (.slice (some ⟨g73, 0, none⟩) 0 0) (by kernel_rfl) (by kernel_rfl) ?_
            refine ql (.slice (some ⟨g75, 0, none⟩) 0 0) (by kernel_rfl) (by kernel_rfl) ?_
            refine wpList_nil ?_
            refine x_then ?_
            refine wp_seq ?_
            refine wp_seq ?_
            refine wp_region_lit ?_
            refine ql (.int .i64 0) (by kernel_rfl) (by kernel_rfl) ?_
            refine wpList_nil ?_
            refine x_then ?_
            refine wp_block ?_
            replace HS : St W (owns []) W76 [blk k47 [.int .i64 0, .map none, .pointer none] 83, row A49 0 c50 (cp ([] : List Pp)) 22 1, row (some ⟨g73, 0, none⟩) 0 0 (ci .i64 ([])) 3 1, row (some ⟨g75, 0, none⟩) 0 0 (ci .i64 ([])) 3 1] := St.tail (F := []) (HS.perm (perm_ [2, 3, 1, 0] (by kernel_rfl) rfl))
            refine wp_loop_ghost (fun kq a' w' => ∃ (J77 : Nat → Value) (r : Int) (L1 : List Int) (L2 : List Int) (A1 : Option Addr) (c1 : Nat) (A2 : Option Addr) (c2 : Nat) , a' = Fr ((.int .i64 n) :: (.slice Al l.length cl) :: (.slice Am m.length cm) :: (.int .i64 a) :: (.int .i64 b) :: undef :: undef :: undef :: undef :: undef :: ((u52 10)) :: (.pointer (some ⟨k47, 0, none⟩)) :: (.slice A49 0 c50) :: (.slice A1 L1.length c1) :: (.slice A2 L2.length c2) :: (.int .i64 r) :: (.slice Al l.length cl) :: (.int .i64 (l.length : Int)) :: (.bool false) :: (.bool false) :: (.slice Am m.length cm) :: (.int .i64 (m.length : Int)) :: (.bool false) :: (.bool false) :: (.bool false) :: (.int .i64 n) :: (.bool false) :: (.bool false) :: undef :: undef :: (.bool false) :: (.bool false) :: undef :: (.int .i64 n) :: (.slice Al l.length cl) :: (.pointer (some ⟨k47, 0, none⟩)) :: (.int .i64 n) :: (.slice Al l.length cl) :: (.slice A49 0 c50) :: ((u52 39)) :: ((u52 40)) :: ((u52 41)) :: ((u52 42)) :: ((u52 43)) :: ((u52 44)) :: ((u52 45)) :: ((u52 46)) :: ((u52 47)) :: ((u52 48)) :: ((u52 49)) :: ((u52 50)) :: ((u52 51)) :: ((u52 52)) :: ((u52 53)) :: ((u52 54)) :: ((u52 55)) :: ((u52 56)) :: ((u52 57)) :: ((u52 58)) :: ((u52 59)) :: ((u52 60)) :: ((u52 61)) :: ((u52 62)) :: ((u52 63)) :: ((u52 64)) :: ((u52 65)) :: ((u52 66)) :: ((u52 67)) :: ((u52 68)) :: ((u52 69)) :: ((u52 70)) :: ((u52 71)) :: ((u52 72)) :: ((u52 73)) :: ((u52 74)) :: ((u52 75)) :: ((u52 76)) :: ((u52 77)) :: ((u52 78)) :: ((u52 79)) :: ((u52 80)) :: ((u52 81)) :: ((u52 82)) :: ((u52 83)) :: ((u52 84)) :: ((u52 85)) :: ((u52 86)) :: ((u52 87)) :: ((u52 88)) :: (.slice (some ⟨g73, 0, none⟩) 0 0) :: (.slice (some ⟨g75, 0, none⟩) 0 0) :: ((J77 91)) :: ((J77 92)) :: ((J77 93)) :: ((J77 94)) :: ((J77 95)) :: ((J77 96)) :: ((J77 97)) :: ((J77 98)) :: ((J77 99)) :: ((J77 100)) :: ((J77 101)) :: ((J77 102)) :: ((J77 103)) :: ((J77 104)) :: ((J77 105)) :: ((J77 106)) :: ((J77 107)) :: ((J77 108)) :: ((J77 109)) :: ((J77 110)) :: ((J77 111)) :: ((J77 112)) :: undef :: undef :: undef :: undef :: undef :: undef :: undef :: undef :: undef :: undef :: undef :: undef :: undef :: undef :: undef :: []) ∧ kq = ((0 - r).toNat) ∧ (0 ≤ r) ∧ (r ≤ 0) ∧ (L1 = subsL 0 l a r) ∧ (L2 = supsL 0 l a r) ∧ St W (owns []) w' [blk k47 [.int .i64 0, .map none, .pointer none] 83, row A49 0 c50 (cp ([] : List Pp)) 22 1, row A1 L1.length c1 (ci .i64 L1) 3 1, row A2 L2.length c2 (ci .i64 L2) 3 1]) ((0 - (0 : Int)).toNat) ⟨(fun k_ : Nat => List.getD ((.int .i64 n) :: (.slice Al l.length cl) :: (.slice Am m.length cm) :: (.int .i64 a) :: (.int .i64 b) :: undef :: undef :: undef :: undef :: undef :: ((u52 10)) :: (.pointer (some ⟨k47, 0, none⟩)) :: (.slice A49 0 c50) :: (.slice (some ⟨g73, 0, none⟩) 0 0) :: (.slice (some ⟨g75, 0, none⟩) 0 0) :: (.int .i64 0) :: (.slice Al l.length cl) :: (.int .i64 (l.length : Int)) :: (.bool false) :: (.bool false) :: (.slice Am m.length cm) :: (.int .i64 (m.length : Int)) :: (.bool false) :: (.bool false) :: (.bool false) :: (.int .i64 n) :: (.bool false) :: (.bool false) :: undef :: undef :: (.bool false) :: (.bool false) :: undef :: (.int .i64 n) :: (.slice Al l.length cl) :: (.pointer (some ⟨k47, 0, none⟩)) :: (.int .i64 n) :: (.slice Al l.length cl) :: (.slice A49 0 c50) :: ((u52 39)) :: ((u52 40)) :: ((u52 41)) :: ((u52 42)) :: ((u52 43)) :: ((u52 44)) :: ((u52 45)) :: ((u52 46)) :: ((u52 47)) :: ((u52 48)) :: ((u52 49)) :: ((u52 50)) :: ((u52 51)) :: ((u52 52)) :: ((u52 53)) :: ((u52 54)) :: ((u52 55)) :: ((u52 56)) :: ((u52 57)) :: ((u52 58)) :: ((u52 59)) :: ((u52 60)) :: ((u52 61)) :: ((u52 62)) :: ((u52 63)) :: ((u52 64)) :: ((u52 65)) :: ((u52 66)) :: ((u52 67)) :: ((u52 68)) :: ((u52 69)) :: ((u52 70)) :: ((u52 71)) :: ((u52 72)) :: ((u52 73)) :: ((u52 74)) :: ((u52 75)) :: ((u52 76)) :: ((u52 77)) :: ((u52 78)) :: ((u52 79)) :: ((u52 80)) :: ((u52 81)) :: ((u52 82)) :: ((u52 83)) :: ((u52 84)) :: ((u52 85)) :: ((u52 86)) :: ((u52 87)) :: ((u52 88)) :: (.slice (some ⟨g73, 0, none⟩) 0 0) :: (.slice (some ⟨g75, 0, none⟩) 0 0) :: undef :: undef :: undef :: undef :: undef :: undef :: undef :: undef :: undef :: undef :: undef :: undef :: undef :: undef :: undef :: undef :: undef :: undef :: undef :: undef :: undef :: undef :: undef :: undef :: undef :: undef :: undef :: undef :: undef :: undef :: undef :: undef :: undef :: undef :: undef :: undef :: undef :: []) k_ undef), (0 : Int), [], [], some ⟨g73, 0, none⟩, 0, some ⟨g75, 0, none⟩, 0, congrArg Fr (by kernel_rfl), rfl, by omega, by omega, rfl, rfl, HS⟩ ?_
            clear HS
            intro kq78 a' W79 hrel
            obtain ⟨J77, r, L1, L2, A1, c1, A2, c2, rfl, hk, r0, r1, hqsubs, hqsups, HS⟩ := hrel
            have hz1 := subs_len 0 l a r
            have hz2 := sups_len 0 l a r
            rw [← hqsubs] at hz1
            rw [← hqsups] at hz2
            refine wp_seq ?_
            refine wp_seq ?_
            refine wp_region_lit ?_
            refine ql (.int .i64 r) (by kernel_rfl) (by kernel_rfl) ?_
            refine ql (.slice A49 0 c50) (by kernel_rfl) (by kernel_rfl) ?_
            refine ql (.int .i64 0) (by kernel_rfl) (by kernel_rfl) ?_
            by_cases hc80 : r < (0 : Int)
            · skip
              refine ql (.bool true) (by kernel_rfl) (R_bool (p := r < (0 : Int)) (by kernel_rfl) (hc80)) ?_
              refine wpList_nil ?_
              refine x_then ?_
              refine wp_cond_true (by kernel_rfl) ?_
              refine wp_skip ?_
              refine x_then ?_
              refine wp_seq ?_
              refine wp_block ?_
              refine wp_seq ?_
              refine wp_seq ?_
              exfalso; omega
            · skip
              refine ql (.bool false) (by kernel_rfl) (R_nbool (p := r < (0 : Int)) (by kernel_rfl) (hc80)) ?_
              refine wpList_nil ?_
              refine x_then ?_
              refine wp_cond_false (by kernel_rfl) ?_
              refine wp_exit ?_
              refine x_thenE ?_
              refine x_thenE ?_
              refine x_hit ?_
              refine x_then ?_
              refine wp_seq ?_
              refine wp_region_lit ?_
              refine ql (.pointer (some ⟨k47, 0, none⟩)) (by kernel_rfl) (by kernel_rfl) ?_
              refine ql (.int .i64 a) (by kernel_rfl) (by kernel_rfl) ?_
              refine qc (f := 22) (args := #[.pointer (some ⟨k47, 0, none⟩), .int .i64 a]) (by kernel_rfl) (R_call #[.pointer (some ⟨k47, 0, none⟩), .int .i64 a] Try.func22 (by kernel_rfl) (by kernel_rfl) (by kernel_rfl)) ?_
              refine (ksubs0 k47 a _ (HS.cell (i := 0) (j := 0) rfl rfl)).mono ?_
              rintro e W81 ⟨rfl, H_⟩
              refine ⟨_, rfl, ?_⟩
              replace HS : St W (owns []) W81 [blk k47 [.int .i64 0, .map none, .pointer none] 83, row A49 0 c50 (cp ([] : List Pp)) 22 1, row A1 L1.length c1 (ci .i64 L1) 3 1, row A2 L2.length c2 (ci .i64 L2) 3 1] := HS.join (F := []) (G := []) H_
              clear H_
              refine ql (.slice A1 L1.length c1) (by kernel_rfl) (by kernel_rfl) ?_
              refine qc (f := 25) (args := #[.slice none 0 0, .slice A1 L1.length c1]) (by kernel_rfl) (R_call #[.slice none 0 0, .slice A1 L1.length c1] Try.func25 (by kernel_rfl) (by kernel_rfl) (by kernel_rfl)) ?_
              have hssubs : ([] : List Int) = L1 := by rw [hqsubs, show r = 0 by omega]; rfl
              refine (r1same none A1 0 c1 [] L1 _ rd_nil (by decide) (Rd.row HS (i := 2) rfl) (by rw [← hssubs]; decide)).mono ?_
              rintro e W82 ⟨rfl, H_⟩
              rw [decide_eq_true hssubs]
              refine ⟨_, rfl, ?_⟩
              replace HS : St W (owns []) W82 [blk k47 [.int .i64 0, .map none, .pointer none] 83, row A49 0 c50 (cp ([] : List Pp)) 22 1, row A1 L1.length c1 (ci .i64 L1) 3 1, row A2 L2.length c2 (ci .i64 L2) 3 1] := HS.join (F := []) (G := []) H_
              clear H_
              refine ql (.bool true) (by kernel_rfl) (by kernel_rfl) ?_
              refine ql (.pointer (some ⟨k47, 0, none⟩)) (by kernel_rfl) (by kernel_rfl) ?_
              refine ql (.int .i64 a) (by kernel_rfl) (by kernel_rfl) ?_
              refine qc (f := 23) (args := #[.pointer (some ⟨k47, 0, none⟩), .int .i64 a]) (by kernel_rfl) (R_call #[.pointer (some ⟨k47, 0, none⟩), .int .i64 a] Try.func23 (by kernel_rfl) (by kernel_rfl) (by kernel_rfl)) ?_
              refine (ksups0 k47 a _ (HS.cell (i := 0) (j := 0) rfl rfl)).mono ?_
              rintro e W83 ⟨rfl, H_⟩
              refine ⟨_, rfl, ?_⟩
              replace HS : St W (owns []) W83 [blk k47 [.int .i64 0, .map none, .pointer none] 83, row A49 0 c50 (cp ([] : List Pp)) 22 1, row A1 L1.length c1 (ci .i64 L1) 3 1, row A2 L2.length c2 (ci .i64 L2) 3 1] := HS.join (F := []) (G := []) H_
              clear H_
              refine ql (.slice A2 L2.length c2) (by kernel_rfl) (by kernel_rfl) ?_
              refine qc (f := 25) (args := #[.slice none 0 0, .slice A2 L2.length c2]) (by kernel_rfl) (R_call #[.slice none 0 0, .slice A2 L2.length c2] Try.func25 (by kernel_rfl) (by kernel_rfl) (by kernel_rfl)) ?_
              have hssups : ([] : List Int) = L2 := by rw [hqsups, show r = 0 by omega]; rfl
              refine (r1same none A2 0 c2 [] L2 _ rd_nil (by decide) (Rd.row HS (i := 3) rfl) (by rw [← hssups]; decide)).mono ?_
              rintro e W84 ⟨rfl, H_⟩
              rw [decide_eq_true hssups]
              refine ⟨_, rfl, ?_⟩
              replace HS : St W (owns []) W84 [blk k47 [.int .i64 0, .map none, .pointer none] 83, row A49 0 c50 (cp ([] : List Pp)) 22 1, row A1 L1.length c1 (ci .i64 L1) 3 1, row A2 L2.length c2 (ci .i64 L2) 3 1] := HS.join (F := []) (G := []) H_
              clear H_
              refine ql (.bool true) (by kernel_rfl) (by kernel_rfl) ?_
              refine ql (.bool true) (by kernel_rfl) (by kernel_rfl) ?_
              refine qc (f := 18) (args := #[]) (by kernel_rfl) (R_call #[] Try.func18 (by kernel_rfl) (by kernel_rfl) (by kernel_rfl)) ?_
              refine (kawake _).mono ?_
              rintro e W85 ⟨rfl, H_⟩
              refine ⟨_, rfl, ?_⟩
              replace HS : St W (owns []) W85 [blk k47 [.int .i64 0, .map none, .pointer none] 83, row A49 0 c50 (cp ([] : List Pp)) 22 1, row A1 L1.length c1 (ci .i64 L1) 3 1, row A2 L2.length c2 (ci .i64 L2) 3 1] := HS.join (F := []) (G := []) H_
              clear H_
              refine ql (.bool true) (by kernel_rfl) (by kernel_rfl) ?_
              refine ql (.bool true) (by kernel_rfl) (by kernel_rfl) ?_
              refine wpList_nil ?_
              refine x_then ?_
              refine wp_ret ?_
              refine ret_ (.bool true) (by kernel_rfl) ?_
              replace HS := HS.drop1
              replace HS := HS.drop1
              replace HS := HS.drop1
              replace HS := HS.drop1
              exact ⟨rfl, HS⟩
        · skip
          have hbl := bndL_len (n := n) (l := l) (by omega) (by omega)
          refine (kof n Al cl l _ (hra.old0 HS) (by first | omega | decide | (rw [List.length_append]; omega)) (by omega) (by omega)).mono ?_
          rintro e W89 ⟨k86, x87, rfl, H_, hok88⟩
          refine ⟨_, rfl, ?_⟩
          replace HS : St W (owns []) W89 [many (knE Try.prog 83 3 3 105 98 113 110 k86 n x87)] := HS.join (F := []) (G := [many (knE Try.prog 83 3 3 105 98 113 110 k86 n x87)]) H_
          clear H_
          refine ql (.pointer (some ⟨k86, 0, none⟩)) (by kernel_rfl) (by kernel_rfl) ?_
          refine wpList_nil ?_
          refine x_then ?_
          refine wp_seq ?_
          refine wp_region_lit ?_
          refine ql (.int .i64 n) (by kernel_rfl) (by kernel_rfl) ?_
          refine ql (.slice Al l.length cl) (by kernel_rfl) (by kernel_rfl) ?_
          refine qc (f := 35) (args := #[.int .i64 n, .slice Al l.length cl]) (by kernel_rfl) (R_call #[.int .i64 n, .slice Al l.length cl] Try.func35 (by kernel_rfl) (by kernel_rfl) (by kernel_rfl)) ?_
          refine (r31of n Al cl l _ (hra.old0 HS) (by omega) (by omega) (by omega)).mono ?_
          rintro e W92 ⟨A90, c91, ps, rfl, H_, hrm⟩
          refine ⟨_, rfl, ?_⟩
          replace HS : St W (owns []) W92 [row A90 ps.length c91 (cp ps) 22 1, many (ps.map (rwE 3)), many (knE Try.prog 83 3 3 105 98 113 110 k86 n x87)] := HS.join (F := []) (G := [row A90 ps.length c91 (cp ps) 22 1, many (ps.map (rwE 3))]) H_
          clear H_
          have hpl := hrm.len
          refine ql (.slice A90 ps.length c91) (by kernel_rfl) (by kernel_rfl) ?_
          refine wpList_nil ?_
          refine x_then ?_
          refine wp_seq_cut (fun a' w' => ∃ (u93 : Nat → Value) , a' = Fr ((.int .i64 n) :: (.slice Al l.length cl) :: (.slice Am m.length cm) :: (.int .i64 a) :: (.int .i64 b) :: undef :: undef :: undef :: undef :: undef :: ((u93 10)) :: (.pointer (some ⟨k86, 0, none⟩)) :: (.slice A90 ps.length c91) :: undef :: undef :: undef :: (.slice Al l.length cl) :: (.int .i64 (l.length : Int)) :: (.bool false) :: (.bool false) :: (.slice Am m.length cm) :: (.int .i64 (m.length : Int)) :: (.bool false) :: (.bool false) :: (.bool false) :: (.int .i64 n) :: (.bool false) :: (.bool false) :: undef :: undef :: (.bool false) :: (.bool false) :: undef :: (.int .i64 n) :: (.slice Al l.length cl) :: (.pointer (some ⟨k86, 0, none⟩)) :: (.int .i64 n) :: (.slice Al l.length cl) :: (.slice A90 ps.length c91) :: ((u93 39)) :: ((u93 40)) :: ((u93 41)) :: ((u93 42)) :: ((u93 43)) :: ((u93 44)) :: ((u93 45)) :: ((u93 46)) :: ((u93 47)) :: ((u93 48)) :: ((u93 49)) :: ((u93 50)) :: ((u93 51)) :: ((u93 52)) :: ((u93 53)) :: ((u93 54)) :: ((u93 55)) :: ((u93 56)) :: ((u93 57)) :: ((u93 58)) :: ((u93 59)) :: ((u93 60)) :: ((u93 61)) :: ((u93 62)) :: ((u93 63)) :: ((u93 64)) :: ((u93 65)) :: ((u93 66)) :: ((u93 67)) :: ((u93 68)) :: ((u93 69)) :: ((u93 70)) :: ((u93 71)) :: ((u93 72)) :: ((u93 73)) :: ((u93 74)) :: ((u93 75)) :: ((u93 76)) :: ((u93 77)) :: ((u93 78)) :: ((u93 79)) :: ((u93 80)) :: ((u93 81)) :: ((u93 82)) :: ((u93 83)) :: ((u93 84)) :: ((u93 85)) :: ((u93 86)) :: ((u93 87)) :: ((u93 88)) :: undef :: undef :: undef :: undef :: undef :: undef :: undef :: undef :: undef :: undef :: undef :: undef :: undef :: undef :: undef :: undef :: undef :: undef :: undef :: undef :: undef :: undef :: undef :: undef :: undef :: undef :: undef :: undef :: undef :: undef :: undef :: undef :: undef :: undef :: undef :: undef :: undef :: undef :: undef :: []) ∧ St W (owns []) w' [many (knE Try.prog 83 3 3 105 98 113 110 k86 n x87), row A90 ps.length c91 (cp ps) 22 1, many (ps.map (rwE 3))]) ?_ ?_
          · skip
            refine wp_seq ?_
            refine wp_region_lit ?_
            refine ql (.pointer (some ⟨k86, 0, none⟩)) (by kernel_rfl) (by kernel_rfl) ?_
            refine qc (f := 36) (args := #[.pointer (some ⟨k86, 0, none⟩)]) (by kernel_rfl) (R_call #[.pointer (some ⟨k86, 0, none⟩)] Try.func36 (by kernel_rfl) (by kernel_rfl) (by kernel_rfl)) ?_
            refine (klen k86 n _ (kn_P (HS.hasP (i := 2) rfl)).1).mono ?_
            rintro e W94 ⟨rfl, H_⟩
            refine ⟨_, rfl, ?_⟩
            replace HS : St W (owns []) W94 [row A90 ps.length c91 (cp ps) 22 1, many (ps.map (rwE 3)), many (knE Try.prog 83 3 3 105 98 113 110 k86 n x87)] := HS.join (F := []) (G := []) H_
            clear H_
            refine ql (.slice A90 ps.length c91) (by kernel_rfl) (by kernel_rfl) ?_
            refine ql (.int .i64 (ps.length : Int)) (by kernel_rfl) (by kernel_rfl) ?_
            by_cases hc95 : n = (ps.length : Int)
            · skip
              refine ql (.bool false) (by kernel_rfl) (R_beq (b := (n != (ps.length : Int))) (by kernel_rfl) (bne_f (hc95))) ?_
              refine ql (.bool false) (by kernel_rfl) (by kernel_rfl) ?_
              refine ql (.pointer (some ⟨k86, 0, none⟩)) (by kernel_rfl) (by kernel_rfl) ?_
              refine ql (.int .i64 a) (by kernel_rfl) (by kernel_rfl) ?_
              refine ql (.int .i64 b) (by kernel_rfl) (by kernel_rfl) ?_
              refine qc (f := 21) (args := #[.pointer (some ⟨k86, 0, none⟩), .int .i64 a, .int .i64 b]) (by kernel_rfl) (R_call #[.pointer (some ⟨k86, 0, none⟩), .int .i64 a, .int .i64 b] Try.func21 (by kernel_rfl) (by kernel_rfl) (by kernel_rfl)) ?_
              by_cases hK_a_b : knB n l a b = true
              · skip
                refine (khasP k86 n x87 l a b _ (HS.hasP (i := 2) rfl) hok88 (by omega) (by first | omega | decide | (rw [List.length_append]; omega))).mono ?_
                rintro e W96 ⟨rfl, H_⟩
                rw [hK_a_b]
                refine ⟨_, rfl, ?_⟩
                replace HS : St W (owns []) W96 [row A90 ps.length c91 (cp ps) 22 1, many (ps.map (rwE 3)), many (knE Try.prog 83 3 3 105 98 113 110 k86 n x87)] := HS.join (F := []) (G := []) H_
                clear H_
                refine ql (.slice A90 ps.length c91) (by kernel_rfl) (by kernel_rfl) ?_
                refine ql (.int .i64 a) (by kernel_rfl) (by kernel_rfl) ?_
                refine ql (.int .i64 b) (by kernel_rfl) (by kernel_rfl) ?_
                refine qc (f := 37) (args := #[.slice A90 ps.length c91, .int .i64 a, .int .i64 b]) (by kernel_rfl) (R_call #[.slice A90 ps.length c91, .int .i64 a, .int .i64 b] Try.func37 (by kernel_rfl) (by kernel_rfl) (by kernel_rfl)) ?_
                refine (r31has A90 c91 ps n l a b _ (Rd.row HS (i := 0) rfl) (fun p hp => rws_rd (A := p.1.1) (c := p.1.2) (l := p.2) (HS.hasP (i := 1) rfl) hp) hrm (by omega)).mono ?_
                rintro e W97 ⟨rfl, H_⟩
                rw [hK_a_b]
                refine ⟨_, rfl, ?_⟩
                replace HS : St W (owns []) W97 [row A90 ps.length c91 (cp ps) 22 1, many (ps.map (rwE 3)), many (knE Try.prog 83 3 3 105 98 113 110 k86 n x87)] := HS.join (F := []) (G := []) H_
                clear H_
                refine ql (.bool false) (by kernel_rfl) (by kernel_rfl) ?_
                refine ql (.bool false) (by kernel_rfl) (by kernel_rfl) ?_
                refine ql (.bool false) (by kernel_rfl) (by kernel_rfl) ?_
                refine ql (.pointer (some ⟨k86, 0, none⟩)) (by kernel_rfl) (by kernel_rfl) ?_
                refine ql (.int .i64 a) (by kernel_rfl) (by kernel_rfl) ?_
                refine ql (.int .i64 b) (by kernel_rfl) (by kernel_rfl) ?_
                refine qc (f := 20) (args := #[.pointer (some ⟨k86, 0, none⟩), .int .i64 a, .int .i64 b]) (by kernel_rfl) (R_call #[.pointer (some ⟨k86, 0, none⟩), .int .i64 a, .int .i64 b] Try.func20 (by kernel_rfl) (by kernel_rfl) (by kernel_rfl)) ?_
                by_cases hK_b_a : knB n l b a = true
                · skip
                  refine (kalikeP k86 n x87 l a b _ (HS.hasP (i := 2) rfl) hok88 (by omega) (by first | omega | decide | (rw [List.length_append]; omega))).mono ?_
                  rintro e W98 ⟨rfl, H_⟩
                  rw [hK_a_b, hK_b_a]
                  refine ⟨_, rfl, ?_⟩
                  replace HS : St W (owns []) W98 [row A90 ps.length c91 (cp ps) 22 1, many (ps.map (rwE 3)), many (knE Try.prog 83 3 3 105 98 113 110 k86 n x87)] := HS.join (F := []) (G := []) H_
                  clear H_
                  refine ql (.slice A90 ps.length c91) (by kernel_rfl) (by kernel_rfl) ?_
                  refine ql (.int .i64 a) (by kernel_rfl) (by kernel_rfl) ?_
                  refine ql (.int .i64 b) (by kernel_rfl) (by kernel_rfl) ?_
                  refine qc (f := 37) (args := #[.slice A90 ps.length c91, .int .i64 a, .int .i64 b]) (by kernel_rfl) (R_call #[.slice A90 ps.length c91, .int .i64 a, .int .i64 b] Try.func37 (by kernel_rfl) (by kernel_rfl) (by kernel_rfl)) ?_
                  refine (r31has A90 c91 ps n l a b _ (Rd.row HS (i := 0) rfl) (fun p hp => rws_rd (A := p.1.1) (c := p.1.2) (l := p.2) (HS.hasP (i := 1) rfl) hp) hrm (by omega)).mono ?_
                  rintro e W99 ⟨rfl, H_⟩
                  rw [hK_a_b]
                  refine ⟨_, rfl, ?_⟩
                  replace HS : St W (owns []) W99 [row A90 ps.length c91 (cp ps) 22 1, many (ps.map (rwE 3)), many (knE Try.prog 83 3 3 105 98 113 110 k86 n x87)] := HS.join (F := []) (G := []) H_
                  clear H_
                  refine ql (.bool true) (by kernel_rfl) (by kernel_rfl) ?_
                  refine ql (.slice A90 ps.length c91) (by kernel_rfl) (by kernel_rfl) ?_
                  refine ql (.int .i64 b) (by kernel_rfl) (by kernel_rfl) ?_
                  refine ql (.int .i64 a) (by kernel_rfl) (by kernel_rfl) ?_
                  refine qc (f := 37) (args := #[.slice A90 ps.length c91, .int .i64 b, .int .i64 a]) (by kernel_rfl) (R_call #[.slice A90 ps.length c91, .int .i64 b, .int .i64 a] Try.func37 (by kernel_rfl) (by kernel_rfl) (by kernel_rfl)) ?_
                  refine (r31has A90 c91 ps n l b a _ (Rd.row HS (i := 0) rfl) (fun p hp => rws_rd (A := p.1.1) (c := p.1.2) (l := p.2) (HS.hasP (i := 1) rfl) hp) hrm (by omega)).mono ?_
                  rintro e W100 ⟨rfl, H_⟩
                  rw [hK_b_a]
                  refine ⟨_, rfl, ?_⟩
                  replace HS : St W (owns []) W100 [row A90 ps.length c91 (cp ps) 22 1, many (ps.map (rwE 3)), many (knE Try.prog 83 3 3 105 98 113 110 k86 n x87)] := HS.join (F := []) (G := []) H_
                  clear H_
                  refine ql (.bool true) (by kernel_rfl) (by kernel_rfl) ?_
                  refine ql (.bool false) (by kernel_rfl) (by kernel_rfl) ?_
                  refine ql (.bool false) (by kernel_rfl) (by kernel_rfl) ?_
                  refine ql (.bool false) (by kernel_rfl) (by kernel_rfl) ?_
                  refine ql (.pointer (some ⟨k86, 0, none⟩)) (by kernel_rfl) (by kernel_rfl) ?_
                  refine ql (.slice Am m.length cm) (by kernel_rfl) (by kernel_rfl) ?_
                  refine qc (f := 38) (args := #[.pointer (some ⟨k86, 0, none⟩), .slice Am m.length cm]) (by kernel_rfl) (R_call #[.pointer (some ⟨k86, 0, none⟩), .slice Am m.length cm] Try.func38 (by kernel_rfl) (by kernel_rfl) (by kernel_rfl)) ?_
                  by_cases hall : allK n l m = true
                  · skip
                    refine (kallP k86 n x87 l Am cm m _ (HS.hasP (i := 2) rfl) hok88 (by omega) (by first | omega | decide | (rw [List.length_append]; omega)) (hrb.old0 HS) (by omega)).mono ?_
                    rintro e W101 ⟨rfl, H_⟩
                    rw [hall]
                    refine ⟨_, rfl, ?_⟩
                    replace HS : St W (owns []) W101 [row A90 ps.length c91 (cp ps) 22 1, many (ps.map (rwE 3)), many (knE Try.prog 83 3 3 105 98 113 110 k86 n x87)] := HS.join (F := []) (G := []) H_
                    clear H_
                    refine ql (.slice A90 ps.length c91) (by kernel_rfl) (by kernel_rfl) ?_
                    refine ql (.slice Am m.length cm) (by kernel_rfl) (by kernel_rfl) ?_
                    refine qc (f := 39) (args := #[.slice A90 ps.length c91, .slice Am m.length cm]) (by kernel_rfl) (R_call #[.slice A90 ps.length c91, .slice Am m.length cm] Try.func39 (by kernel_rfl) (by kernel_rfl) (by kernel_rfl)) ?_
                    refine (r31all A90 c91 ps n l Am cm m _ (Rd.row HS (i := 0) rfl) (fun p hp => rws_rd (A := p.1.1) (c := p.1.2) (l := p.2) (HS.hasP (i := 1) rfl) hp) hrm (by omega) (hrb.old0 HS) (by omega)).mono ?_
                    rintro e W102 ⟨rfl, H_⟩
                    rw [hall]
                    refine ⟨_, rfl, ?_⟩
                    replace HS : St W (owns []) W102 [row A90 ps.length c91 (cp ps) 22 1, many (ps.map (rwE 3)), many (knE Try.prog 83 3 3 105 98 113 110 k86 n x87)] := HS.join (F := []) (G := []) H_
                    clear H_
                    refine ql (.bool false) (by kernel_rfl) (by kernel_rfl) ?_
                    refine ql (.bool false) (by kernel_rfl) (by kernel_rfl) ?_
                    refine ql (.bool false) (by kernel_rfl) (by kernel_rfl) ?_
                    refine ql (.pointer (some ⟨k86, 0, none⟩)) (by kernel_rfl) (by kernel_rfl) ?_
                    refine qc (f := 41) (args := #[.pointer (some ⟨k86, 0, none⟩)]) (by kernel_rfl) (R_call #[.pointer (some ⟨k86, 0, none⟩)] Try.func41 (by kernel_rfl) (by kernel_rfl) (by kernel_rfl)) ?_
                    refine (kbndP k86 n x87 l _ (HS.hasP (i := 2) rfl) hok88 (by omega) (by first | omega | decide | (rw [List.length_append]; omega)) (by omega) (by omega)).mono ?_
                    rintro e W105 ⟨A103, c104, rfl, H_⟩
                    refine ⟨_, rfl, ?_⟩
                    replace HS : St W (owns []) W105 [row A103 ((bndL n l).length) c104 (cf prC (bndL n l)) 79 2, row A90 ps.length c91 (cp ps) 22 1, many (ps.map (rwE 3)), many (knE Try.prog 83 3 3 105 98 113 110 k86 n x87)] := HS.join (F := []) (G := [row A103 ((bndL n l).length) c104 (cf prC (bndL n l)) 79 2]) H_
                    clear H_
                    refine ql (.slice A90 ps.length c91) (by kernel_rfl) (by kernel_rfl) ?_
                    refine qc (f := 42) (args := #[.slice A90 ps.length c91]) (by kernel_rfl) (R_call #[.slice A90 ps.length c91] Try.func42 (by kernel_rfl) (by kernel_rfl) (by kernel_rfl)) ?_
                    refine (r31bnd A90 c91 ps n l _ (Rd.row HS (i := 1) rfl) (fun p hp => rws_rd (A := p.1.1) (c := p.1.2) (l := p.2) (HS.hasP (i := 2) rfl) hp) hrm (by omega)).mono ?_
                    rintro e W108 ⟨A106, c107, rfl, H_⟩
                    refine ⟨_, rfl, ?_⟩
                    replace HS : St W (owns []) W108 [row A106 ((bndL n l).length) c107 (cf prC (bndL n l)) 79 2, row A103 ((bndL n l).length) c104 (cf prC (bndL n l)) 79 2, row A90 ps.length c91 (cp ps) 22 1, many (ps.map (rwE 3)), many (knE Try.prog 83 3 3 105 98 113 110 k86 n x87)] := HS.join (F := []) (G := [row A106 ((bndL n l).length) c107 (cf prC (bndL n l)) 79 2]) H_
                    clear H_
                    refine qc (f := 40) (args := #[.slice A103 ((bndL n l).length) c104, .slice A106 ((bndL n l).length) c107]) (by kernel_rfl) (R_call #[.slice A103 ((bndL n l).length) c104, .slice A106 ((bndL n l).length) c107] Try.func40 (by kernel_rfl) (by kernel_rfl) (by kernel_rfl)) ?_
                    refine (r17b A103 A106 c104 c107 (bndL n l) (bndL n l) _ (Rd.row HS (i := 1) rfl) (Rd.row HS (i := 0) rfl) (by omega) (by omega)).mono ?_
                    rintro e W109 ⟨rfl, H_⟩
                    rw [decide_eq_true rfl]
                    refine ⟨_, rfl, ?_⟩
                    replace HS : St W (owns []) W109 [row A106 ((bndL n l).length) c107 (cf prC (bndL n l)) 79 2, row A103 ((bndL n l).length) c104 (cf prC (bndL n l)) 79 2, row A90 ps.length c91 (cp ps) 22 1, many (ps.map (rwE 3)), many (knE Try.prog 83 3 3 105 98 113 110 k86 n x87)] := HS.join (F := []) (G := []) H_
                    clear H_
                    refine ql (.bool false) (by kernel_rfl) (by kernel_rfl) ?_
                    refine ql (.bool false) (by kernel_rfl) (by kernel_rfl) ?_
                    refine wpList_nil ?_
                    refine x_then ?_
                    refine wp_cond_false (by kernel_rfl) ?_
                    refine wp_skip ?_
                    replace HS : St W (owns []) W109 [many (knE Try.prog 83 3 3 105 98 113 110 k86 n x87), row A90 ps.length c91 (cp ps) 22 1, many (ps.map (rwE 3))] := St.tail (F := [row A106 ((bndL n l).length) c107 (cf prC (bndL n l)) 79 2, row A103 ((bndL n l).length) c104 (cf prC (bndL n l)) 79 2]) (HS.perm (perm_ [0, 1, 4, 2, 3] (by kernel_rfl) rfl))
                    refine x_then ?_
                    exact ⟨(fun k_ : Nat => List.getD ((.int .i64 n) :: (.slice Al l.length cl) :: (.slice Am m.length cm) :: (.int .i64 a) :: (.int .i64 b) :: undef :: undef :: undef :: undef :: undef :: (.bool false) :: (.pointer (some ⟨k86, 0, none⟩)) :: (.slice A90 ps.length c91) :: undef :: undef :: undef :: (.slice Al l.length cl) :: (.int .i64 (l.length : Int)) :: (.bool false) :: (.bool false) :: (.slice Am m.length cm) :: (.int .i64 (m.length : Int)) :: (.bool false) :: (.bool false) :: (.bool false) :: (.int .i64 n) :: (.bool false) :: (.bool false) :: undef :: undef :: (.bool false) :: (.bool false) :: undef :: (.int .i64 n) :: (.slice Al l.length cl) :: (.pointer (some ⟨k86, 0, none⟩)) :: (.int .i64 n) :: (.slice Al l.length cl) :: (.slice A90 ps.length c91) :: (.pointer (some ⟨k86, 0, none⟩)) :: (.int .i64 n) :: (.slice A90 ps.length c91) :: (.int .i64 (ps.length : Int)) :: (.bool false) :: (.bool false) :: (.pointer (some ⟨k86, 0, none⟩)) :: (.int .i64 a) :: (.int .i64 b) :: (.bool true) :: (.slice A90 ps.length c91) :: (.int .i64 a) :: (.int .i64 b) :: (.bool true) :: (.bool false) :: (.bool false) :: (.bool false) :: (.pointer (some ⟨k86, 0, none⟩)) :: (.int .i64 a) :: (.int .i64 b) :: (.bool true) :: (.slice A90 ps.length c91) :: (.int .i64 a) :: (.int .i64 b) :: (.bool true) :: (.bool true) :: (.slice A90 ps.length c91) :: (.int .i64 b) :: (.int .i64 a) :: (.bool true) :: (.bool true) :: (.bool false) :: (.bool false) :: (.bool false) :: (.pointer (some ⟨k86, 0, none⟩)) :: (.slice Am m.length cm) :: (.bool true) :: (.slice A90 ps.length c91) :: (.slice Am m.length cm) :: (.bool true) :: (.bool false) :: (.bool false) :: (.bool false) :: (.pointer (some ⟨k86, 0, none⟩)) :: (.slice A103 ((bndL n l).length) c104) :: (.slice A90 ps.length c91) :: (.slice A106 ((bndL n l).length) c107) :: (.bool true) :: (.bool false) :: (.bool false) :: undef :: undef :: undef :: undef :: undef :: undef :: undef :: undef :: undef :: undef :: undef :: undef :: undef :: undef :: undef :: undef :: undef :: undef :: undef :: undef :: undef :: undef :: undef :: undef :: undef :: undef :: undef :: undef :: undef :: undef :: undef :: undef :: undef :: undef :: undef :: undef :: undef :: undef :: undef :: []) k_ undef), congrArg Fr (by kernel_rfl), HS⟩
                  · skip
                    refine (kallP k86 n x87 l Am cm m _ (HS.hasP (i := 2) rfl) hok88 (by omega) (by first | omega | decide | (rw [List.length_append]; omega)) (hrb.old0 HS) (by omega)).mono ?_
                    rintro e W110 ⟨rfl, H_⟩
                    rw [Bool.eq_false_iff.2 hall]
                    refine ⟨_, rfl, ?_⟩
                    replace HS : St W (owns []) W110 [row A90 ps.length c91 (cp ps) 22 1, many (ps.map (rwE 3)), many (knE Try.prog 83 3 3 105 98 113 110 k86 n x87)] := HS.join (F := []) (G := []) H_
                    clear H_
                    refine ql (.slice A90 ps.length c91) (by kernel_rfl) (by kernel_rfl) ?_
                    refine ql (.slice Am m.length cm) (by kernel_rfl) (by kernel_rfl) ?_
                    refine qc (f := 39) (args := #[.slice A90 ps.length c91, .slice Am m.length cm]) (by kernel_rfl) (R_call #[.slice A90 ps.length c91, .slice Am m.length cm] Try.func39 (by kernel_rfl) (by kernel_rfl) (by kernel_rfl)) ?_
                    refine (r31all A90 c91 ps n l Am cm m _ (Rd.row HS (i := 0) rfl) (fun p hp => rws_rd (A := p.1.1) (c := p.1.2) (l := p.2) (HS.hasP (i := 1) rfl) hp) hrm (by omega) (hrb.old0 HS) (by omega)).mono ?_
                    rintro e W111 ⟨rfl, H_⟩
                    rw [Bool.eq_false_iff.2 hall]
                    refine ⟨_, rfl, ?_⟩
                    replace HS : St W (owns []) W111 [row A90 ps.length c91 (cp ps) 22 1, many (ps.map (rwE 3)), many (knE Try.prog 83 3 3 105 98 113 110 k86 n x87)] := HS.join (F := []) (G := []) H_
                    clear H_
                    refine ql (.bool false) (by kernel_rfl) (by kernel_rfl) ?_
                    refine ql (.bool false) (by kernel_rfl) (by kernel_rfl) ?_
                    refine ql (.bool false) (by kernel_rfl) (by kernel_rfl) ?_
                    refine ql (.pointer (some ⟨k86, 0, none⟩)) (by kernel_rfl) (by kernel_rfl) ?_
                    refine qc (f := 41) (args := #[.pointer (some ⟨k86, 0, none⟩)]) (by kernel_rfl) (R_call #[.pointer (some ⟨k86, 0, none⟩)] Try.func41 (by kernel_rfl) (by kernel_rfl) (by kernel_rfl)) ?_
                    refine (kbndP k86 n x87 l _ (HS.hasP (i := 2) rfl) hok88 (by omega) (by first | omega | decide | (rw [List.length_append]; omega)) (by omega) (by omega)).mono ?_
                    rintro e W114 ⟨A112, c113, rfl, H_⟩
                    refine ⟨_, rfl, ?_⟩
                    replace HS : St W (owns []) W114 [row A112 ((bndL n l).length) c113 (cf prC (bndL n l)) 79 2, row A90 ps.length c91 (cp ps) 22 1, many (ps.map (rwE 3)), many (knE Try.prog 83 3 3 105 98 113 110 k86 n x87)] := HS.join (F := []) (G := [row A112 ((bndL n l).length) c113 (cf prC (bndL n l)) 79 2]) H_
                    clear H_
                    refine ql (.slice A90 ps.length c91) (by kernel_rfl) (by kernel_rfl) ?_
                    refine qc (f := 42) (args := #[.slice A90 ps.length c91]) (by kernel_rfl) (R_call #[.slice A90 ps.length c91] Try.func42 (by kernel_rfl) (by kernel_rfl) (by kernel_rfl)) ?_
                    refine (r31bnd A90 c91 ps n l _ (Rd.row HS (i := 1) rfl) (fun p hp => rws_rd (A := p.1.1) (c := p.1.2) (l := p.2) (HS.hasP (i := 2) rfl) hp) hrm (by omega)).mono ?_
                    rintro e W117 ⟨A115, c116, rfl, H_⟩
                    refine ⟨_, rfl, ?_⟩
                    replace HS : St W (owns []) W117 [row A115 ((bndL n l).length) c116 (cf prC (bndL n l)) 79 2, row A112 ((bndL n l).length) c113 (cf prC (bndL n l)) 79 2, row A90 ps.length c91 (cp ps) 22 1, many (ps.map (rwE 3)), many (knE Try.prog 83 3 3 105 98 113 110 k86 n x87)] := HS.join (F := []) (G := [row A115 ((bndL n l).length) c116 (cf prC (bndL n l)) 79 2]) H_
                    clear H_
                    refine qc (f := 40) (args := #[.slice A112 ((bndL n l).length) c113, .slice A115 ((bndL n l).length) c116]) (by kernel_rfl) (R_call #[.slice A112 ((bndL n l).length) c113, .slice A115 ((bndL n l).length) c116] Try.func40 (by kernel_rfl) (by kernel_rfl) (by kernel_rfl)) ?_
                    refine (r17b A112 A115 c113 c116 (bndL n l) (bndL n l) _ (Rd.row HS (i := 1) rfl) (Rd.row HS (i := 0) rfl) (by omega) (by omega)).mono ?_
                    rintro e W118 ⟨rfl, H_⟩
                    rw [decide_eq_true rfl]
                    refine ⟨_, rfl, ?_⟩
                    replace HS : St W (owns []) W118 [row A115 ((bndL n l).length) c116 (cf prC (bndL n l)) 79 2, row A112 ((bndL n l).length) c113 (cf prC (bndL n l)) 79 2, row A90 ps.length c91 (cp ps) 22 1, many (ps.map (rwE 3)), many (knE Try.prog 83 3 3 105 98 113 110 k86 n x87)] := HS.join (F := []) (G := []) H_
                    clear H_
                    refine ql (.bool false) (by kernel_rfl) (by kernel_rfl) ?_
                    refine ql (.bool false) (by kernel_rfl) (by kernel_rfl) ?_
                    refine wpList_nil ?_
                    refine x_then ?_
                    refine wp_cond_false (by kernel_rfl) ?_
                    refine wp_skip ?_
                    replace HS : St W (owns []) W118 [many (knE Try.prog 83 3 3 105 98 113 110 k86 n x87), row A90 ps.length c91 (cp ps) 22 1, many (ps.map (rwE 3))] := St.tail (F := [row A115 ((bndL n l).length) c116 (cf prC (bndL n l)) 79 2, row A112 ((bndL n l).length) c113 (cf prC (bndL n l)) 79 2]) (HS.perm (perm_ [0, 1, 4, 2, 3] (by kernel_rfl) rfl))
                    refine x_then ?_
                    exact ⟨(fun k_ : Nat => List.getD ((.int .i64 n) :: (.slice Al l.length cl) :: (.slice Am m.length cm) :: (.int .i64 a) :: (.int .i64 b) :: undef :: undef :: undef :: undef :: undef :: (.bool false) :: (.pointer (some ⟨k86, 0, none⟩)) :: (.slice A90 ps.length c91) :: undef :: undef :: undef :: (.slice Al l.length cl) :: (.int .i64 (l.length : Int)) :: (.bool false) :: (.bool false) :: (.slice Am m.length cm) :: (.int .i64 (m.length : Int)) :: (.bool false) :: (.bool false) :: (.bool false) :: (.int .i64 n) :: (.bool false) :: (.bool false) :: undef :: undef :: (.bool false) :: (.bool false) :: undef :: (.int .i64 n) :: (.slice Al l.length cl) :: (.pointer (some ⟨k86, 0, none⟩)) :: (.int .i64 n) :: (.slice Al l.length cl) :: (.slice A90 ps.length c91) :: (.pointer (some ⟨k86, 0, none⟩)) :: (.int .i64 n) :: (.slice A90 ps.length c91) :: (.int .i64 (ps.length : Int)) :: (.bool false) :: (.bool false) :: (.pointer (some ⟨k86, 0, none⟩)) :: (.int .i64 a) :: (.int .i64 b) :: (.bool true) :: (.slice A90 ps.length c91) :: (.int .i64 a) :: (.int .i64 b) :: (.bool true) :: (.bool false) :: (.bool false) :: (.bool false) :: (.pointer (some ⟨k86, 0, none⟩)) :: (.int .i64 a) :: (.int .i64 b) :: (.bool true) :: (.slice A90 ps.length c91) :: (.int .i64 a) :: (.int .i64 b) :: (.bool true) :: (.bool true) :: (.slice A90 ps.length c91) :: (.int .i64 b) :: (.int .i64 a) :: (.bool true) :: (.bool true) :: (.bool false) :: (.bool false) :: (.bool false) :: (.pointer (some ⟨k86, 0, none⟩)) :: (.slice Am m.length cm) :: (.bool false) :: (.slice A90 ps.length c91) :: (.slice Am m.length cm) :: (.bool false) :: (.bool false) :: (.bool false) :: (.bool false) :: (.pointer (some ⟨k86, 0, none⟩)) :: (.slice A112 ((bndL n l).length) c113) :: (.slice A90 ps.length c91) :: (.slice A115 ((bndL n l).length) c116) :: (.bool true) :: (.bool false) :: (.bool false) :: undef :: undef :: undef :: undef :: undef :: undef :: undef :: undef :: undef :: undef :: undef :: undef :: undef :: undef :: undef :: undef :: undef :: undef :: undef :: undef :: undef :: undef :: undef :: undef :: undef :: undef :: undef :: undef :: undef :: undef :: undef :: undef :: undef :: undef :: undef :: undef :: undef :: undef :: undef :: []) k_ undef), congrArg Fr (by kernel_rfl), HS⟩
                · skip
                  refine (kalikeP k86 n x87 l a b _ (HS.hasP (i := 2) rfl) hok88 (by omega) (by first | omega | decide | (rw [List.length_append]; omega))).mono ?_
                  rintro e W119 ⟨rfl, H_⟩
                  rw [hK_a_b, Bool.eq_false_iff.2 hK_b_a]
                  refine ⟨_, rfl, ?_⟩
                  replace HS : St W (owns []) W119 [row A90 ps.length c91 (cp ps) 22 1, many (ps.map (rwE 3)), many (knE Try.prog 83 3 3 105 98 113 110 k86 n x87)] := HS.join (F := []) (G := []) H_
                  clear H_
                  refine ql (.slice A90 ps.length c91) (by kernel_rfl) (by kernel_rfl) ?_
                  refine ql (.int .i64 a) (by kernel_rfl) (by kernel_rfl) ?_
                  refine ql (.int .i64 b) (by kernel_rfl) (by kernel_rfl) ?_
                  refine qc (f := 37) (args := #[.slice A90 ps.length c91, .int .i64 a, .int .i64 b]) (by kernel_rfl) (R_call #[.slice A90 ps.length c91, .int .i64 a, .int .i64 b] Try.func37 (by kernel_rfl) (by kernel_rfl) (by kernel_rfl)) ?_
                  refine (r31has A90 c91 ps n l a b _ (Rd.row HS (i := 0) rfl) (fun p hp => rws_rd (A := p.1.1) (c := p.1.2) (l := p.2) (HS.hasP (i := 1) rfl) hp) hrm (by omega)).mono ?_
                  rintro e W120 ⟨rfl, H_⟩
                  rw [hK_a_b]
                  refine ⟨_, rfl, ?_⟩
                  replace HS : St W (owns []) W120 [row A90 ps.length c91 (cp ps) 22 1, many (ps.map (rwE 3)), many (knE Try.prog 83 3 3 105 98 113 110 k86 n x87)] := HS.join (F := []) (G := []) H_
                  clear H_
                  refine ql (.bool true) (by kernel_rfl) (by kernel_rfl) ?_
                  refine ql (.slice A90 ps.length c91) (by kernel_rfl) (by kernel_rfl) ?_
                  refine ql (.int .i64 b) (by kernel_rfl) (by kernel_rfl) ?_
                  refine ql (.int .i64 a) (by kernel_rfl) (by kernel_rfl) ?_
                  refine qc (f := 37) (args := #[.slice A90 ps.length c91, .int .i64 b, .int .i64 a]) (by kernel_rfl) (R_call #[.slice A90 ps.length c91, .int .i64 b, .int .i64 a] Try.func37 (by kernel_rfl) (by kernel_rfl) (by kernel_rfl)) ?_
                  refine (r31has A90 c91 ps n l b a _ (Rd.row HS (i := 0) rfl) (fun p hp => rws_rd (A := p.1.1) (c := p.1.2) (l := p.2) (HS.hasP (i := 1) rfl) hp) hrm (by omega)).mono ?_
                  rintro e W121 ⟨rfl, H_⟩
                  rw [Bool.eq_false_iff.2 hK_b_a]
                  refine ⟨_, rfl, ?_⟩
                  replace HS : St W (owns []) W121 [row A90 ps.length c91 (cp ps) 22 1, many (ps.map (rwE 3)), many (knE Try.prog 83 3 3 105 98 113 110 k86 n x87)] := HS.join (F := []) (G := []) H_
                  clear H_
                  refine ql (.bool false) (by kernel_rfl) (by kernel_rfl) ?_
                  refine ql (.bool false) (by kernel_rfl) (by kernel_rfl) ?_
                  refine ql (.bool false) (by kernel_rfl) (by kernel_rfl) ?_
                  refine ql (.bool false) (by kernel_rfl) (by kernel_rfl) ?_
                  refine ql (.pointer (some ⟨k86, 0, none⟩)) (by kernel_rfl) (by kernel_rfl) ?_
                  refine ql (.slice Am m.length cm) (by kernel_rfl) (by kernel_rfl) ?_
                  refine qc (f := 38) (args := #[.pointer (some ⟨k86, 0, none⟩), .slice Am m.length cm]) (by kernel_rfl) (R_call #[.pointer (some ⟨k86, 0, none⟩), .slice Am m.length cm] Try.func38 (by kernel_rfl) (by kernel_rfl) (by kernel_rfl)) ?_
                  by_cases hall : allK n l m = true
                  · skip
                    refine (kallP k86 n x87 l Am cm m _ (HS.hasP (i := 2) rfl) hok88 (by omega) (by first | omega | decide | (rw [List.length_append]; omega)) (hrb.old0 HS) (by omega)).mono ?_
                    rintro e W122 ⟨rfl, H_⟩
                    rw [hall]
                    refine ⟨_, rfl, ?_⟩
                    replace HS : St W (owns []) W122 [row A90 ps.length c91 (cp ps) 22 1, many (ps.map (rwE 3)), many (knE Try.prog 83 3 3 105 98 113 110 k86 n x87)] := HS.join (F := []) (G := []) H_
                    clear H_
                    refine ql (.slice A90 ps.length c91) (by kernel_rfl) (by kernel_rfl) ?_
                    refine ql (.slice Am m.length cm) (by kernel_rfl) (by kernel_rfl) ?_
                    refine qc (f := 39) (args := #[.slice A90 ps.length c91, .slice Am m.length cm]) (by kernel_rfl) (R_call #[.slice A90 ps.length c91, .slice Am m.length cm] Try.func39 (by kernel_rfl) (by kernel_rfl) (by kernel_rfl)) ?_
                    refine (r31all A90 c91 ps n l Am cm m _ (Rd.row HS (i := 0) rfl) (fun p hp => rws_rd (A := p.1.1) (c := p.1.2) (l := p.2) (HS.hasP (i := 1) rfl) hp) hrm (by omega) (hrb.old0 HS) (by omega)).mono ?_
                    rintro e W123 ⟨rfl, H_⟩
                    rw [hall]
                    refine ⟨_, rfl, ?_⟩
                    replace HS : St W (owns []) W123 [row A90 ps.length c91 (cp ps) 22 1, many (ps.map (rwE 3)), many (knE Try.prog 83 3 3 105 98 113 110 k86 n x87)] := HS.join (F := []) (G := []) H_
                    clear H_
                    refine ql (.bool false) (by kernel_rfl) (by kernel_rfl) ?_
                    refine ql (.bool false) (by kernel_rfl) (by kernel_rfl) ?_
                    refine ql (.bool false) (by kernel_rfl) (by kernel_rfl) ?_
                    refine ql (.pointer (some ⟨k86, 0, none⟩)) (by kernel_rfl) (by kernel_rfl) ?_
                    refine qc (f := 41) (args := #[.pointer (some ⟨k86, 0, none⟩)]) (by kernel_rfl) (R_call #[.pointer (some ⟨k86, 0, none⟩)] Try.func41 (by kernel_rfl) (by kernel_rfl) (by kernel_rfl)) ?_
                    refine (kbndP k86 n x87 l _ (HS.hasP (i := 2) rfl) hok88 (by omega) (by first | omega | decide | (rw [List.length_append]; omega)) (by omega) (by omega)).mono ?_
                    rintro e W126 ⟨A124, c125, rfl, H_⟩
                    refine ⟨_, rfl, ?_⟩
                    replace HS : St W (owns []) W126 [row A124 ((bndL n l).length) c125 (cf prC (bndL n l)) 79 2, row A90 ps.length c91 (cp ps) 22 1, many (ps.map (rwE 3)), many (knE Try.prog 83 3 3 105 98 113 110 k86 n x87)] := HS.join (F := []) (G := [row A124 ((bndL n l).length) c125 (cf prC (bndL n l)) 79 2]) H_
                    clear H_
                    refine ql (.slice A90 ps.length c91) (by kernel_rfl) (by kernel_rfl) ?_
                    refine qc (f := 42) (args := #[.slice A90 ps.length c91]) (by kernel_rfl) (R_call #[.slice A90 ps.length c91] Try.func42 (by kernel_rfl) (by kernel_rfl) (by kernel_rfl)) ?_
                    refine (r31bnd A90 c91 ps n l _ (Rd.row HS (i := 1) rfl) (fun p hp => rws_rd (A := p.1.1) (c := p.1.2) (l := p.2) (HS.hasP (i := 2) rfl) hp) hrm (by omega)).mono ?_
                    rintro e W129 ⟨A127, c128, rfl, H_⟩
                    refine ⟨_, rfl, ?_⟩
                    replace HS : St W (owns []) W129 [row A127 ((bndL n l).length) c128 (cf prC (bndL n l)) 79 2, row A124 ((bndL n l).length) c125 (cf prC (bndL n l)) 79 2, row A90 ps.length c91 (cp ps) 22 1, many (ps.map (rwE 3)), many (knE Try.prog 83 3 3 105 98 113 110 k86 n x87)] := HS.join (F := []) (G := [row A127 ((bndL n l).length) c128 (cf prC (bndL n l)) 79 2]) H_
                    clear H_
                    refine qc (f := 40) (args := #[.slice A124 ((bndL n l).length) c125, .slice A127 ((bndL n l).length) c128]) (by kernel_rfl) (R_call #[.slice A124 ((bndL n l).length) c125, .slice A127 ((bndL n l).length) c128] Try.func40 (by kernel_rfl) (by kernel_rfl) (by kernel_rfl)) ?_
                    refine (r17b A124 A127 c125 c128 (bndL n l) (bndL n l) _ (Rd.row HS (i := 1) rfl) (Rd.row HS (i := 0) rfl) (by omega) (by omega)).mono ?_
                    rintro e W130 ⟨rfl, H_⟩
                    rw [decide_eq_true rfl]
                    refine ⟨_, rfl, ?_⟩
                    replace HS : St W (owns []) W130 [row A127 ((bndL n l).length) c128 (cf prC (bndL n l)) 79 2, row A124 ((bndL n l).length) c125 (cf prC (bndL n l)) 79 2, row A90 ps.length c91 (cp ps) 22 1, many (ps.map (rwE 3)), many (knE Try.prog 83 3 3 105 98 113 110 k86 n x87)] := HS.join (F := []) (G := []) H_
                    clear H_
                    refine ql (.bool false) (by kernel_rfl) (by kernel_rfl) ?_
                    refine ql (.bool false) (by kernel_rfl) (by kernel_rfl) ?_
                    refine wpList_nil ?_
                    refine x_then ?_
                    refine wp_cond_false (by kernel_rfl) ?_
                    refine wp_skip ?_
                    replace HS : St W (owns []) W130 [many (knE Try.prog 83 3 3 105 98 113 110 k86 n x87), row A90 ps.length c91 (cp ps) 22 1, many (ps.map (rwE 3))] := St.tail (F := [row A127 ((bndL n l).length) c128 (cf prC (bndL n l)) 79 2, row A124 ((bndL n l).length) c125 (cf prC (bndL n l)) 79 2]) (HS.perm (perm_ [0, 1, 4, 2, 3] (by kernel_rfl) rfl))
                    refine x_then ?_
                    exact ⟨(fun k_ : Nat => List.getD ((.int .i64 n) :: (.slice Al l.length cl) :: (.slice Am m.length cm) :: (.int .i64 a) :: (.int .i64 b) :: undef :: undef :: undef :: undef :: undef :: (.bool false) :: (.pointer (some ⟨k86, 0, none⟩)) :: (.slice A90 ps.length c91) :: undef :: undef :: undef :: (.slice Al l.length cl) :: (.int .i64 (l.length : Int)) :: (.bool false) :: (.bool false) :: (.slice Am m.length cm) :: (.int .i64 (m.length : Int)) :: (.bool false) :: (.bool false) :: (.bool false) :: (.int .i64 n) :: (.bool false) :: (.bool false) :: undef :: undef :: (.bool false) :: (.bool false) :: undef :: (.int .i64 n) :: (.slice Al l.length cl) :: (.pointer (some ⟨k86, 0, none⟩)) :: (.int .i64 n) :: (.slice Al l.length cl) :: (.slice A90 ps.length c91) :: (.pointer (some ⟨k86, 0, none⟩)) :: (.int .i64 n) :: (.slice A90 ps.length c91) :: (.int .i64 (ps.length : Int)) :: (.bool false) :: (.bool false) :: (.pointer (some ⟨k86, 0, none⟩)) :: (.int .i64 a) :: (.int .i64 b) :: (.bool true) :: (.slice A90 ps.length c91) :: (.int .i64 a) :: (.int .i64 b) :: (.bool true) :: (.bool false) :: (.bool false) :: (.bool false) :: (.pointer (some ⟨k86, 0, none⟩)) :: (.int .i64 a) :: (.int .i64 b) :: (.bool false) :: (.slice A90 ps.length c91) :: (.int .i64 a) :: (.int .i64 b) :: (.bool true) :: (.bool true) :: (.slice A90 ps.length c91) :: (.int .i64 b) :: (.int .i64 a) :: (.bool false) :: (.bool false) :: (.bool false) :: (.bool false) :: (.bool false) :: (.pointer (some ⟨k86, 0, none⟩)) :: (.slice Am m.length cm) :: (.bool true) :: (.slice A90 ps.length c91) :: (.slice Am m.length cm) :: (.bool true) :: (.bool false) :: (.bool false) :: (.bool false) :: (.pointer (some ⟨k86, 0, none⟩)) :: (.slice A124 ((bndL n l).length) c125) :: (.slice A90 ps.length c91) :: (.slice A127 ((bndL n l).length) c128) :: (.bool true) :: (.bool false) :: (.bool false) :: undef :: undef :: undef :: undef :: undef :: undef :: undef :: undef :: undef :: undef :: undef :: undef :: undef :: undef :: undef :: undef :: undef :: undef :: undef :: undef :: undef :: undef :: undef :: undef :: undef :: undef :: undef :: undef :: undef :: undef :: undef :: undef :: undef :: undef :: undef :: undef :: undef :: undef :: undef :: []) k_ undef), congrArg Fr (by kernel_rfl), HS⟩
                  · skip
                    refine (kallP k86 n x87 l Am cm m _ (HS.hasP (i := 2) rfl) hok88 (by omega) (by first | omega | decide | (rw [List.length_append]; omega)) (hrb.old0 HS) (by omega)).mono ?_
                    rintro e W131 ⟨rfl, H_⟩
                    rw [Bool.eq_false_iff.2 hall]
                    refine ⟨_, rfl, ?_⟩
                    replace HS : St W (owns []) W131 [row A90 ps.length c91 (cp ps) 22 1, many (ps.map (rwE 3)), many (knE Try.prog 83 3 3 105 98 113 110 k86 n x87)] := HS.join (F := []) (G := []) H_
                    clear H_
                    refine ql (.slice A90 ps.length c91) (by kernel_rfl) (by kernel_rfl) ?_
                    refine ql (.slice Am m.length cm) (by kernel_rfl) (by kernel_rfl) ?_
                    refine qc (f := 39) (args := #[.slice A90 ps.length c91, .slice Am m.length cm]) (by kernel_rfl) (R_call #[.slice A90 ps.length c91, .slice Am m.length cm] Try.func39 (by kernel_rfl) (by kernel_rfl) (by kernel_rfl)) ?_
                    refine (r31all A90 c91 ps n l Am cm m _ (Rd.row HS (i := 0) rfl) (fun p hp => rws_rd (A := p.1.1) (c := p.1.2) (l := p.2) (HS.hasP (i := 1) rfl) hp) hrm (by omega) (hrb.old0 HS) (by omega)).mono ?_
                    rintro e W132 ⟨rfl, H_⟩
                    rw [Bool.eq_false_iff.2 hall]
                    refine ⟨_, rfl, ?_⟩
                    replace HS : St W (owns []) W132 [row A90 ps.length c91 (cp ps) 22 1, many (ps.map (rwE 3)), many (knE Try.prog 83 3 3 105 98 113 110 k86 n x87)] := HS.join (F := []) (G := []) H_
                    clear H_
                    refine ql (.bool false) (by kernel_rfl) (by kernel_rfl) ?_
                    refine ql (.bool false) (by kernel_rfl) (by kernel_rfl) ?_
                    refine ql (.bool false) (by kernel_rfl) (by kernel_rfl) ?_
                    refine ql (.pointer (some ⟨k86, 0, none⟩)) (by kernel_rfl) (by kernel_rfl) ?_
                    refine qc (f := 41) (args := #[.pointer (some ⟨k86, 0, none⟩)]) (by kernel_rfl) (R_call #[.pointer (some ⟨k86, 0, none⟩)] Try.func41 (by kernel_rfl) (by kernel_rfl) (by kernel_rfl)) ?_
                    refine (kbndP k86 n x87 l _ (HS.hasP (i := 2) rfl) hok88 (by omega) (by first | omega | decide | (rw [List.length_append]; omega)) (by omega) (by omega)).mono ?_
                    rintro e W135 ⟨A133, c134, rfl, H_⟩
                    refine ⟨_, rfl, ?_⟩
                    replace HS : St W (owns []) W135 [row A133 ((bndL n l).length) c134 (cf prC (bndL n l)) 79 2, row A90 ps.length c91 (cp ps) 22 1, many (ps.map (rwE 3)), many (knE Try.prog 83 3 3 105 98 113 110 k86 n x87)] := HS.join (F := []) (G := [row A133 ((bndL n l).length) c134 (cf prC (bndL n l)) 79 2]) H_
                    clear H_
                    refine ql (.slice A90 ps.length c91) (by kernel_rfl) (by kernel_rfl) ?_
                    refine qc (f := 42) (args := #[.slice A90 ps.length c91]) (by kernel_rfl) (R_call #[.slice A90 ps.length c91] Try.func42 (by kernel_rfl) (by kernel_rfl) (by kernel_rfl)) ?_
                    refine (r31bnd A90 c91 ps n l _ (Rd.row HS (i := 1) rfl) (fun p hp => rws_rd (A := p.1.1) (c := p.1.2) (l := p.2) (HS.hasP (i := 2) rfl) hp) hrm (by omega)).mono ?_
                    rintro e W138 ⟨A136, c137, rfl, H_⟩
                    refine ⟨_, rfl, ?_⟩
                    replace HS : St W (owns []) W138 [row A136 ((bndL n l).length) c137 (cf prC (bndL n l)) 79 2, row A133 ((bndL n l).length) c134 (cf prC (bndL n l)) 79 2, row A90 ps.length c91 (cp ps) 22 1, many (ps.map (rwE 3)), many (knE Try.prog 83 3 3 105 98 113 110 k86 n x87)] := HS.join (F := []) (G := [row A136 ((bndL n l).length) c137 (cf prC (bndL n l)) 79 2]) H_
                    clear H_
                    refine qc (f := 40) (args := #[.slice A133 ((bndL n l).length) c134, .slice A136 ((bndL n l).length) c137]) (by kernel_rfl) (R_call #[.slice A133 ((bndL n l).length) c134, .slice A136 ((bndL n l).length) c137] Try.func40 (by kernel_rfl) (by kernel_rfl) (by kernel_rfl)) ?_
                    refine (r17b A133 A136 c134 c137 (bndL n l) (bndL n l) _ (Rd.row HS (i := 1) rfl) (Rd.row HS (i := 0) rfl) (by omega) (by omega)).mono ?_
                    rintro e W139 ⟨rfl, H_⟩
                    rw [decide_eq_true rfl]
                    refine ⟨_, rfl, ?_⟩
                    replace HS : St W (owns []) W139 [row A136 ((bndL n l).length) c137 (cf prC (bndL n l)) 79 2, row A133 ((bndL n l).length) c134 (cf prC (bndL n l)) 79 2, row A90 ps.length c91 (cp ps) 22 1, many (ps.map (rwE 3)), many (knE Try.prog 83 3 3 105 98 113 110 k86 n x87)] := HS.join (F := []) (G := []) H_
                    clear H_
                    refine ql (.bool false) (by kernel_rfl) (by kernel_rfl) ?_
                    refine ql (.bool false) (by kernel_rfl) (by kernel_rfl) ?_
                    refine wpList_nil ?_
                    refine x_then ?_
                    refine wp_cond_false (by kernel_rfl) ?_
                    refine wp_skip ?_
                    replace HS : St W (owns []) W139 [many (knE Try.prog 83 3 3 105 98 113 110 k86 n x87), row A90 ps.length c91 (cp ps) 22 1, many (ps.map (rwE 3))] := St.tail (F := [row A136 ((bndL n l).length) c137 (cf prC (bndL n l)) 79 2, row A133 ((bndL n l).length) c134 (cf prC (bndL n l)) 79 2]) (HS.perm (perm_ [0, 1, 4, 2, 3] (by kernel_rfl) rfl))
                    refine x_then ?_
                    exact ⟨(fun k_ : Nat => List.getD ((.int .i64 n) :: (.slice Al l.length cl) :: (.slice Am m.length cm) :: (.int .i64 a) :: (.int .i64 b) :: undef :: undef :: undef :: undef :: undef :: (.bool false) :: (.pointer (some ⟨k86, 0, none⟩)) :: (.slice A90 ps.length c91) :: undef :: undef :: undef :: (.slice Al l.length cl) :: (.int .i64 (l.length : Int)) :: (.bool false) :: (.bool false) :: (.slice Am m.length cm) :: (.int .i64 (m.length : Int)) :: (.bool false) :: (.bool false) :: (.bool false) :: (.int .i64 n) :: (.bool false) :: (.bool false) :: undef :: undef :: (.bool false) :: (.bool false) :: undef :: (.int .i64 n) :: (.slice Al l.length cl) :: (.pointer (some ⟨k86, 0, none⟩)) :: (.int .i64 n) :: (.slice Al l.length cl) :: (.slice A90 ps.length c91) :: (.pointer (some ⟨k86, 0, none⟩)) :: (.int .i64 n) :: (.slice A90 ps.length c91) :: (.int .i64 (ps.length : Int)) :: (.bool false) :: (.bool false) :: (.pointer (some ⟨k86, 0, none⟩)) :: (.int .i64 a) :: (.int .i64 b) :: (.bool true) :: (.slice A90 ps.length c91) :: (.int .i64 a) :: (.int .i64 b) :: (.bool true) :: (.bool false) :: (.bool false) :: (.bool false) :: (.pointer (some ⟨k86, 0, none⟩)) :: (.int .i64 a) :: (.int .i64 b) :: (.bool false) :: (.slice A90 ps.length c91) :: (.int .i64 a) :: (.int .i64 b) :: (.bool true) :: (.bool true) :: (.slice A90 ps.length c91) :: (.int .i64 b) :: (.int .i64 a) :: (.bool false) :: (.bool false) :: (.bool false) :: (.bool false) :: (.bool false) :: (.pointer (some ⟨k86, 0, none⟩)) :: (.slice Am m.length cm) :: (.bool false) :: (.slice A90 ps.length c91) :: (.slice Am m.length cm) :: (.bool false) :: (.bool false) :: (.bool false) :: (.bool false) :: (.pointer (some ⟨k86, 0, none⟩)) :: (.slice A133 ((bndL n l).length) c134) :: (.slice A90 ps.length c91) :: (.slice A136 ((bndL n l).length) c137) :: (.bool true) :: (.bool false) :: (.bool false) :: undef :: undef :: undef :: undef :: undef :: undef :: undef :: undef :: undef :: undef :: undef :: undef :: undef :: undef :: undef :: undef :: undef :: undef :: undef :: undef :: undef :: undef :: undef :: undef :: undef :: undef :: undef :: undef :: undef :: undef :: undef :: undef :: undef :: undef :: undef :: undef :: undef :: undef :: undef :: []) k_ undef), congrArg Fr (by kernel_rfl), HS⟩
              · skip
                refine (khasP k86 n x87 l a b _ (HS.hasP (i := 2) rfl) hok88 (by omega) (by first | omega | decide | (rw [List.length_append]; omega))).mono ?_
                rintro e W140 ⟨rfl, H_⟩
                rw [Bool.eq_false_iff.2 hK_a_b]
                refine ⟨_, rfl, ?_⟩
                replace HS : St W (owns []) W140 [row A90 ps.length c91 (cp ps) 22 1, many (ps.map (rwE 3)), many (knE Try.prog 83 3 3 105 98 113 110 k86 n x87)] := HS.join (F := []) (G := []) H_
                clear H_
                refine ql (.slice A90 ps.length c91) (by kernel_rfl) (by kernel_rfl) ?_
                refine ql (.int .i64 a) (by kernel_rfl) (by kernel_rfl) ?_
                refine ql (.int .i64 b) (by kernel_rfl) (by kernel_rfl) ?_
                refine qc (f := 37) (args := #[.slice A90 ps.length c91, .int .i64 a, .int .i64 b]) (by kernel_rfl) (R_call #[.slice A90 ps.length c91, .int .i64 a, .int .i64 b] Try.func37 (by kernel_rfl) (by kernel_rfl) (by kernel_rfl)) ?_
                refine (r31has A90 c91 ps n l a b _ (Rd.row HS (i := 0) rfl) (fun p hp => rws_rd (A := p.1.1) (c := p.1.2) (l := p.2) (HS.hasP (i := 1) rfl) hp) hrm (by omega)).mono ?_
                rintro e W141 ⟨rfl, H_⟩
                rw [Bool.eq_false_iff.2 hK_a_b]
                refine ⟨_, rfl, ?_⟩
                replace HS : St W (owns []) W141 [row A90 ps.length c91 (cp ps) 22 1, many (ps.map (rwE 3)), many (knE Try.prog 83 3 3 105 98 113 110 k86 n x87)] := HS.join (F := []) (G := []) H_
                clear H_
                refine ql (.bool false) (by kernel_rfl) (by kernel_rfl) ?_
                refine ql (.bool false) (by kernel_rfl) (by kernel_rfl) ?_
                refine ql (.bool false) (by kernel_rfl) (by kernel_rfl) ?_
                refine ql (.pointer (some ⟨k86, 0, none⟩)) (by kernel_rfl) (by kernel_rfl) ?_
                refine ql (.int .i64 a) (by kernel_rfl) (by kernel_rfl) ?_
                refine ql (.int .i64 b) (by kernel_rfl) (by kernel_rfl) ?_
                refine qc (f := 20) (args := #[.pointer (some ⟨k86, 0, none⟩), .int .i64 a, .int .i64 b]) (by kernel_rfl) (R_call #[.pointer (some ⟨k86, 0, none⟩), .int .i64 a, .int .i64 b] Try.func20 (by kernel_rfl) (by kernel_rfl) (by kernel_rfl)) ?_
                by_cases hK_b_a : knB n l b a = true
                · skip
                  refine (kalikeP k86 n x87 l a b _ (HS.hasP (i := 2) rfl) hok88 (by omega) (by first | omega | decide | (rw [List.length_append]; omega))).mono ?_
                  rintro e W142 ⟨rfl, H_⟩
                  rw [Bool.eq_false_iff.2 hK_a_b, hK_b_a]
                  refine ⟨_, rfl, ?_⟩
                  replace HS : St W (owns []) W142 [row A90 ps.length c91 (cp ps) 22 1, many (ps.map (rwE 3)), many (knE Try.prog 83 3 3 105 98 113 110 k86 n x87)] := HS.join (F := []) (G := []) H_
                  clear H_
                  refine ql (.slice A90 ps.length c91) (by kernel_rfl) (by kernel_rfl) ?_
                  refine ql (.int .i64 a) (by kernel_rfl) (by kernel_rfl) ?_
                  refine ql (.int .i64 b) (by kernel_rfl) (by kernel_rfl) ?_
                  refine qc (f := 37) (args := #[.slice A90 ps.length c91, .int .i64 a, .int .i64 b]) (by kernel_rfl) (R_call #[.slice A90 ps.length c91, .int .i64 a, .int .i64 b] Try.func37 (by kernel_rfl) (by kernel_rfl) (by kernel_rfl)) ?_
                  refine (r31has A90 c91 ps n l a b _ (Rd.row HS (i := 0) rfl) (fun p hp => rws_rd (A := p.1.1) (c := p.1.2) (l := p.2) (HS.hasP (i := 1) rfl) hp) hrm (by omega)).mono ?_
                  rintro e W143 ⟨rfl, H_⟩
                  rw [Bool.eq_false_iff.2 hK_a_b]
                  refine ⟨_, rfl, ?_⟩
                  replace HS : St W (owns []) W143 [row A90 ps.length c91 (cp ps) 22 1, many (ps.map (rwE 3)), many (knE Try.prog 83 3 3 105 98 113 110 k86 n x87)] := HS.join (F := []) (G := []) H_
                  clear H_
                  refine ql (.bool false) (by kernel_rfl) (by kernel_rfl) ?_
                  refine qln (by kernel_rfl) ?_
                  refine qln (by kernel_rfl) ?_
                  refine qln (by kernel_rfl) ?_
                  refine qln (by kernel_rfl) ?_
                  refine ql (.bool false) (by kernel_rfl) (by kernel_rfl) ?_
                  refine ql (.bool false) (by kernel_rfl) (by kernel_rfl) ?_
                  refine ql (.bool false) (by kernel_rfl) (by kernel_rfl) ?_
                  refine ql (.bool false) (by kernel_rfl) (by kernel_rfl) ?_
                  refine ql (.pointer (some ⟨k86, 0, none⟩)) (by kernel_rfl) (by kernel_rfl) ?_
                  refine ql (.slice Am m.length cm) (by kernel_rfl) (by kernel_rfl) ?_
                  refine qc (f := 38) (args := #[.pointer (some ⟨k86, 0, none⟩), .slice Am m.length cm]) (by kernel_rfl) (R_call #[.pointer (some ⟨k86, 0, none⟩), .slice Am m.length cm] Try.func38 (by kernel_rfl) (by kernel_rfl) (by kernel_rfl)) ?_
                  by_cases hall : allK n l m = true
                  · skip
                    refine (kallP k86 n x87 l Am cm m _ (HS.hasP (i := 2) rfl) hok88 (by omega) (by first | omega | decide | (rw [List.length_append]; omega)) (hrb.old0 HS) (by omega)).mono ?_
                    rintro e W144 ⟨rfl, H_⟩
                    rw [hall]
                    refine ⟨_, rfl, ?_⟩
                    replace HS : St W (owns []) W144 [row A90 ps.length c91 (cp ps) 22 1, many (ps.map (rwE 3)), many (knE Try.prog 83 3 3 105 98 113 110 k86 n x87)] := HS.join (F := []) (G := []) H_
                    clear H_
                    refine ql (.slice A90 ps.length c91) (by kernel_rfl) (by kernel_rfl) ?_
                    refine ql (.slice Am m.length cm) (by kernel_rfl) (by kernel_rfl) ?_
                    refine qc (f := 39) (args := #[.slice A90 ps.length c91, .slice Am m.length cm]) (by kernel_rfl) (R_call #[.slice A90 ps.length c91, .slice Am m.length cm] Try.func39 (by kernel_rfl) (by kernel_rfl) (by kernel_rfl)) ?_
                    refine (r31all A90 c91 ps n l Am cm m _ (Rd.row HS (i := 0) rfl) (fun p hp => rws_rd (A := p.1.1) (c := p.1.2) (l := p.2) (HS.hasP (i := 1) rfl) hp) hrm (by omega) (hrb.old0 HS) (by omega)).mono ?_
                    rintro e W145 ⟨rfl, H_⟩
                    rw [hall]
                    refine ⟨_, rfl, ?_⟩
                    replace HS : St W (owns []) W145 [row A90 ps.length c91 (cp ps) 22 1, many (ps.map (rwE 3)), many (knE Try.prog 83 3 3 105 98 113 110 k86 n x87)] := HS.join (F := []) (G := []) H_
                    clear H_
                    refine ql (.bool false) (by kernel_rfl) (by kernel_rfl) ?_
                    refine ql (.bool false) (by kernel_rfl) (by kernel_rfl) ?_
                    refine ql (.bool false) (by kernel_rfl) (by kernel_rfl) ?_
                    refine ql (.pointer (some ⟨k86, 0, none⟩)) (by kernel_rfl) (by kernel_rfl) ?_
                    refine qc (f := 41) (args := #[.pointer (some ⟨k86, 0, none⟩)]) (by kernel_rfl) (R_call #[.pointer (some ⟨k86, 0, none⟩)] Try.func41 (by kernel_rfl) (by kernel_rfl) (by kernel_rfl)) ?_
                    refine (kbndP k86 n x87 l _ (HS.hasP (i := 2) rfl) hok88 (by omega) (by first | omega | decide | (rw [List.length_append]; omega)) (by omega) (by omega)).mono ?_
                    rintro e W148 ⟨A146, c147, rfl, H_⟩
                    refine ⟨_, rfl, ?_⟩
                    replace HS : St W (owns []) W148 [row A146 ((bndL n l).length) c147 (cf prC (bndL n l)) 79 2, row A90 ps.length c91 (cp ps) 22 1, many (ps.map (rwE 3)), many (knE Try.prog 83 3 3 105 98 113 110 k86 n x87)] := HS.join (F := []) (G := [row A146 ((bndL n l).length) c147 (cf prC (bndL n l)) 79 2]) H_
                    clear H_
                    refine ql (.slice A90 ps.length c91) (by kernel_rfl) (by kernel_rfl) ?_
                    refine qc (f := 42) (args := #[.slice A90 ps.length c91]) (by kernel_rfl) (R_call #[.slice A90 ps.length c91] Try.func42 (by kernel_rfl) (by kernel_rfl) (by kernel_rfl)) ?_
                    refine (r31bnd A90 c91 ps n l _ (Rd.row HS (i := 1) rfl) (fun p hp => rws_rd (A := p.1.1) (c := p.1.2) (l := p.2) (HS.hasP (i := 2) rfl) hp) hrm (by omega)).mono ?_
                    rintro e W151 ⟨A149, c150, rfl, H_⟩
                    refine ⟨_, rfl, ?_⟩
                    replace HS : St W (owns []) W151 [row A149 ((bndL n l).length) c150 (cf prC (bndL n l)) 79 2, row A146 ((bndL n l).length) c147 (cf prC (bndL n l)) 79 2, row A90 ps.length c91 (cp ps) 22 1, many (ps.map (rwE 3)), many (knE Try.prog 83 3 3 105 98 113 110 k86 n x87)] := HS.join (F := []) (G := [row A149 ((bndL n l).length) c150 (cf prC (bndL n l)) 79 2]) H_
                    clear H_
                    refine qc (f := 40) (args := #[.slice A146 ((bndL n l).length) c147, .slice A149 ((bndL n l).length) c150]) (by kernel_rfl) (R_call #[.slice A146 ((bndL n l).length) c147, .slice A149 ((bndL n l).length) c150] Try.func40 (by kernel_rfl) (by kernel_rfl) (by kernel_rfl)) ?_
                    refine (r17b A146 A149 c147 c150 (bndL n l) (bndL n l) _ (Rd.row HS (i := 1) rfl) (Rd.row HS (i := 0) rfl) (by omega) (by omega)).mono ?_
                    rintro e W152 ⟨rfl, H_⟩
                    rw [decide_eq_true rfl]
                    refine ⟨_, rfl, ?_⟩
                    replace HS : St W (owns []) W152 [row A149 ((bndL n l).length) c150 (cf prC (bndL n l)) 79 2, row A146 ((bndL n l).length) c147 (cf prC (bndL n l)) 79 2, row A90 ps.length c91 (cp ps) 22 1, many (ps.map (rwE 3)), many (knE Try.prog 83 3 3 105 98 113 110 k86 n x87)] := HS.join (F := []) (G := []) H_
                    clear H_
                    refine ql (.bool false) (by kernel_rfl) (by kernel_rfl) ?_
                    refine ql (.bool false) (by kernel_rfl) (by kernel_rfl) ?_
                    refine wpList_nil ?_
                    refine x_then ?_
                    refine wp_cond_false (by kernel_rfl) ?_
                    refine wp_skip ?_
                    replace HS : St W (owns []) W152 [many (knE Try.prog 83 3 3 105 98 113 110 k86 n x87), row A90 ps.length c91 (cp ps) 22 1, many (ps.map (rwE 3))] := St.tail (F := [row A149 ((bndL n l).length) c150 (cf prC (bndL n l)) 79 2, row A146 ((bndL n l).length) c147 (cf prC (bndL n l)) 79 2]) (HS.perm (perm_ [0, 1, 4, 2, 3] (by kernel_rfl) rfl))
                    refine x_then ?_
                    exact ⟨(fun k_ : Nat => List.getD ((.int .i64 n) :: (.slice Al l.length cl) :: (.slice Am m.length cm) :: (.int .i64 a) :: (.int .i64 b) :: undef :: undef :: undef :: undef :: undef :: (.bool false) :: (.pointer (some ⟨k86, 0, none⟩)) :: (.slice A90 ps.length c91) :: undef :: undef :: undef :: (.slice Al l.length cl) :: (.int .i64 (l.length : Int)) :: (.bool false) :: (.bool false) :: (.slice Am m.length cm) :: (.int .i64 (m.length : Int)) :: (.bool false) :: (.bool false) :: (.bool false) :: (.int .i64 n) :: (.bool false) :: (.bool false) :: undef :: undef :: (.bool false) :: (.bool false) :: undef :: (.int .i64 n) :: (.slice Al l.length cl) :: (.pointer (some ⟨k86, 0, none⟩)) :: (.int .i64 n) :: (.slice Al l.length cl) :: (.slice A90 ps.length c91) :: (.pointer (some ⟨k86, 0, none⟩)) :: (.int .i64 n) :: (.slice A90 ps.length c91) :: (.int .i64 (ps.length : Int)) :: (.bool false) :: (.bool false) :: (.pointer (some ⟨k86, 0, none⟩)) :: (.int .i64 a) :: (.int .i64 b) :: (.bool false) :: (.slice A90 ps.length c91) :: (.int .i64 a) :: (.int .i64 b) :: (.bool false) :: (.bool false) :: (.bool false) :: (.bool false) :: (.pointer (some ⟨k86, 0, none⟩)) :: (.int .i64 a) :: (.int .i64 b) :: (.bool false) :: (.slice A90 ps.length c91) :: (.int .i64 a) :: (.int .i64 b) :: (.bool false) :: (.bool false) :: undef :: undef :: undef :: undef :: (.bool false) :: (.bool false) :: (.bool false) :: (.bool false) :: (.pointer (some ⟨k86, 0, none⟩)) :: (.slice Am m.length cm) :: (.bool true) :: (.slice A90 ps.length c91) :: (.slice Am m.length cm) :: (.bool true) :: (.bool false) :: (.bool false) :: (.bool false) :: (.pointer (some ⟨k86, 0, none⟩)) :: (.slice A146 ((bndL n l).length) c147) :: (.slice A90 ps.length c91) :: (.slice A149 ((bndL n l).length) c150) :: (.bool true) :: (.bool false) :: (.bool false) :: undef :: undef :: undef :: undef :: undef :: undef :: undef :: undef :: undef :: undef :: undef :: undef :: undef :: undef :: undef :: undef :: undef :: undef :: undef :: undef :: undef :: undef :: undef :: undef :: undef :: undef :: undef :: undef :: undef :: undef :: undef :: undef :: undef :: undef :: undef :: undef :: undef :: undef :: undef :: []) k_ undef), congrArg Fr (by kernel_rfl), HS⟩
                  · skip
                    refine (kallP k86 n x87 l Am cm m _ (HS.hasP (i := 2) rfl) hok88 (by omega) (by first | omega | decide | (rw [List.length_append]; omega)) (hrb.old0 HS) (by omega)).mono ?_
                    rintro e W153 ⟨rfl, H_⟩
                    rw [Bool.eq_false_iff.2 hall]
                    refine ⟨_, rfl, ?_⟩
                    replace HS : St W (owns []) W153 [row A90 ps.length c91 (cp ps) 22 1, many (ps.map (rwE 3)), many (knE Try.prog 83 3 3 105 98 113 110 k86 n x87)] := HS.join (F := []) (G := []) H_
                    clear H_
                    refine ql (.slice A90 ps.length c91) (by kernel_rfl) (by kernel_rfl) ?_
                    refine ql (.slice Am m.length cm) (by kernel_rfl) (by kernel_rfl) ?_
                    refine qc (f := 39) (args := #[.slice A90 ps.length c91, .slice Am m.length cm]) (by kernel_rfl) (R_call #[.slice A90 ps.length c91, .slice Am m.length cm] Try.func39 (by kernel_rfl) (by kernel_rfl) (by kernel_rfl)) ?_
                    refine (r31all A90 c91 ps n l Am cm m _ (Rd.row HS (i := 0) rfl) (fun p hp => rws_rd (A := p.1.1) (c := p.1.2) (l := p.2) (HS.hasP (i := 1) rfl) hp) hrm (by omega) (hrb.old0 HS) (by omega)).mono ?_
                    rintro e W154 ⟨rfl, H_⟩
                    rw [Bool.eq_false_iff.2 hall]
                    refine ⟨_, rfl, ?_⟩
                    replace HS : St W (owns []) W154 [row A90 ps.length c91 (cp ps) 22 1, many (ps.map (rwE 3)), many (knE Try.prog 83 3 3 105 98 113 110 k86 n x87)] := HS.join (F := []) (G := []) H_
                    clear H_
                    refine ql (.bool false) (by kernel_rfl) (by kernel_rfl) ?_
                    refine ql (.bool false) (by kernel_rfl) (by kernel_rfl) ?_
                    refine ql (.bool false) (by kernel_rfl) (by kernel_rfl) ?_
                    refine ql (.pointer (some ⟨k86, 0, none⟩)) (by kernel_rfl) (by kernel_rfl) ?_
                    refine qc (f := 41) (args := #[.pointer (some ⟨k86, 0, none⟩)]) (by kernel_rfl) (R_call #[.pointer (some ⟨k86, 0, none⟩)] Try.func41 (by kernel_rfl) (by kernel_rfl) (by kernel_rfl)) ?_
                    refine (kbndP k86 n x87 l _ (HS.hasP (i := 2) rfl) hok88 (by omega) (by first | omega | decide | (rw [List.length_append]; omega)) (by omega) (by omega)).mono ?_
                    rintro e W157 ⟨A155, c156, rfl, H_⟩
                    refine ⟨_, rfl, ?_⟩
                    replace HS : St W (owns []) W157 [row A155 ((bndL n l).length) c156 (cf prC (bndL n l)) 79 2, row A90 ps.length c91 (cp ps) 22 1, many (ps.map (rwE 3)), many (knE Try.prog 83 3 3 105 98 113 110 k86 n x87)] := HS.join (F := []) (G := [row A155 ((bndL n l).length) c156 (cf prC (bndL n l)) 79 2]) H_
                    clear H_
                    refine ql (.slice A90 ps.length c91) (by kernel_rfl) (by kernel_rfl) ?_
                    refine qc (f := 42) (args := #[.slice A90 ps.length c91]) (by kernel_rfl) (R_call #[.slice A90 ps.length c91] Try.func42 (by kernel_rfl) (by kernel_rfl) (by kernel_rfl)) ?_
                    refine (r31bnd A90 c91 ps n l _ (Rd.row HS (i := 1) rfl) (fun p hp => rws_rd (A := p.1.1) (c := p.1.2) (l := p.2) (HS.hasP (i := 2) rfl) hp) hrm (by omega)).mono ?_
                    rintro e W160 ⟨A158, c159, rfl, H_⟩
                    refine ⟨_, rfl, ?_⟩
                    replace HS : St W (owns []) W160 [row A158 ((bndL n l).length) c159 (cf prC (bndL n l)) 79 2, row A155 ((bndL n l).length) c156 (cf prC (bndL n l)) 79 2, row A90 ps.length c91 (cp ps) 22 1, many (ps.map (rwE 3)), many (knE Try.prog 83 3 3 105 98 113 110 k86 n x87)] := HS.join (F := []) (G := [row A158 ((bndL n l).length) c159 (cf prC (bndL n l)) 79 2]) H_
                    clear H_
                    refine qc (f := 40) (args := #[.slice A155 ((bndL n l).length) c156, .slice A158 ((bndL n l).length) c159]) (by kernel_rfl) (R_call #[.slice A155 ((bndL n l).length) c156, .slice A158 ((bndL n l).length) c159] Try.func40 (by kernel_rfl) (by kernel_rfl) (by kernel_rfl)) ?_
                    refine (r17b A155 A158 c156 c159 (bndL n l) (bndL n l) _ (Rd.row HS (i := 1) rfl) (Rd.row HS (i := 0) rfl) (by omega) (by omega)).mono ?_
                    rintro e W161 ⟨rfl, H_⟩
                    rw [decide_eq_true rfl]
                    refine ⟨_, rfl, ?_⟩
                    replace HS : St W (owns []) W161 [row A158 ((bndL n l).length) c159 (cf prC (bndL n l)) 79 2, row A155 ((bndL n l).length) c156 (cf prC (bndL n l)) 79 2, row A90 ps.length c91 (cp ps) 22 1, many (ps.map (rwE 3)), many (knE Try.prog 83 3 3 105 98 113 110 k86 n x87)] := HS.join (F := []) (G := []) H_
                    clear H_
                    refine ql (.bool false) (by kernel_rfl) (by kernel_rfl) ?_
                    refine ql (.bool false) (by kernel_rfl) (by kernel_rfl) ?_
                    refine wpList_nil ?_
                    refine x_then ?_
                    refine wp_cond_false (by kernel_rfl) ?_
                    refine wp_skip ?_
                    replace HS : St W (owns []) W161 [many (knE Try.prog 83 3 3 105 98 113 110 k86 n x87), row A90 ps.length c91 (cp ps) 22 1, many (ps.map (rwE 3))] := St.tail (F := [row A158 ((bndL n l).length) c159 (cf prC (bndL n l)) 79 2, row A155 ((bndL n l).length) c156 (cf prC (bndL n l)) 79 2]) (HS.perm (perm_ [0, 1, 4, 2, 3] (by kernel_rfl) rfl))
                    refine x_then ?_
                    exact ⟨(fun k_ : Nat => List.getD ((.int .i64 n) :: (.slice Al l.length cl) :: (.slice Am m.length cm) :: (.int .i64 a) :: (.int .i64 b) :: undef :: undef :: undef :: undef :: undef :: (.bool false) :: (.pointer (some ⟨k86, 0, none⟩)) :: (.slice A90 ps.length c91) :: undef :: undef :: undef :: (.slice Al l.length cl) :: (.int .i64 (l.length : Int)) :: (.bool false) :: (.bool false) :: (.slice Am m.length cm) :: (.int .i64 (m.length : Int)) :: (.bool false) :: (.bool false) :: (.bool false) :: (.int .i64 n) :: (.bool false) :: (.bool false) :: undef :: undef :: (.bool false) :: (.bool false) :: undef :: (.int .i64 n) :: (.slice Al l.length cl) :: (.pointer (some ⟨k86, 0, none⟩)) :: (.int .i64 n) :: (.slice Al l.length cl) :: (.slice A90 ps.length c91) :: (.pointer (some ⟨k86, 0, none⟩)) :: (.int .i64 n) :: (.slice A90 ps.length c91) :: (.int .i64 (ps.length : Int)) :: (.bool false) :: (.bool false) :: (.pointer (some ⟨k86, 0, none⟩)) :: (.int .i64 a) :: (.int .i64 b) :: (.bool false) :: (.slice A90 ps.length c91) :: (.int .i64 a) :: (.int .i64 b) :: (.bool false) :: (.bool false) :: (.bool false) :: (.bool false) :: (.pointer (some ⟨k86, 0, none⟩)) :: (.int .i64 a) :: (.int .i64 b) :: (.bool false) :: (.slice A90 ps.length c91) :: (.int .i64 a) :: (.int .i64 b) :: (.bool false) :: (.bool false) :: undef :: undef :: undef :: undef :: (.bool false) :: (.bool false) :: (.bool false) :: (.bool false) :: (.pointer (some ⟨k86, 0, none⟩)) :: (.slice Am m.length cm) :: (.bool false) :: (.slice A90 ps.length c91) :: (.slice Am m.length cm) :: (.bool false) :: (.bool false) :: (.bool false) :: (.bool false) :: (.pointer (some ⟨k86, 0, none⟩)) :: (.slice A155 ((bndL n l).length) c156) :: (.slice A90 ps.length c91) :: (.slice A158 ((bndL n l).length) c159) :: (.bool true) :: (.bool false) :: (.bool false) :: undef :: undef :: undef :: undef :: undef :: undef :: undef :: undef :: undef :: undef :: undef :: undef :: undef :: undef :: undef :: undef :: undef :: undef :: undef :: undef :: undef :: undef :: undef :: undef :: undef :: undef :: undef :: undef :: undef :: undef :: undef :: undef :: undef :: undef :: undef :: undef :: undef :: undef :: undef :: []) k_ undef), congrArg Fr (by kernel_rfl), HS⟩
                · skip
                  refine (kalikeP k86 n x87 l a b _ (HS.hasP (i := 2) rfl) hok88 (by omega) (by first | omega | decide | (rw [List.length_append]; omega))).mono ?_
                  rintro e W162 ⟨rfl, H_⟩
                  rw [Bool.eq_false_iff.2 hK_a_b, Bool.eq_false_iff.2 hK_b_a]
                  refine ⟨_, rfl, ?_⟩
                  replace HS : St W (owns []) W162 [row A90 ps.length c91 (cp ps) 22 1, many (ps.map (rwE 3)), many (knE Try.prog 83 3 3 105 98 113 110 k86 n x87)] := HS.join (F := []) (G := []) H_
                  clear H_
                  refine ql (.slice A90 ps.length c91) (by kernel_rfl) (by kernel_rfl) ?_
                  refine ql (.int .i64 a) (by kernel_rfl) (by kernel_rfl) ?_
                  refine ql (.int .i64 b) (by kernel_rfl) (by kernel_rfl) ?_
                  refine qc (f := 37) (args := #[.slice A90 ps.length c91, .int .i64 a, .int .i64 b]) (by kernel_rfl) (R_call #[.slice A90 ps.length c91, .int .i64 a, .int .i64 b] Try.func37 (by kernel_rfl) (by kernel_rfl) (by kernel_rfl)) ?_
                  refine (r31has A90 c91 ps n l a b _ (Rd.row HS (i := 0) rfl) (fun p hp => rws_rd (A := p.1.1) (c := p.1.2) (l := p.2) (HS.hasP (i := 1) rfl) hp) hrm (by omega)).mono ?_
                  rintro e W163 ⟨rfl, H_⟩
                  rw [Bool.eq_false_iff.2 hK_a_b]
                  refine ⟨_, rfl, ?_⟩
                  replace HS : St W (owns []) W163 [row A90 ps.length c91 (cp ps) 22 1, many (ps.map (rwE 3)), many (knE Try.prog 83 3 3 105 98 113 110 k86 n x87)] := HS.join (F := []) (G := []) H_
                  clear H_
                  refine ql (.bool false) (by kernel_rfl) (by kernel_rfl) ?_
                  refine qln (by kernel_rfl) ?_
                  refine qln (by kernel_rfl) ?_
                  refine qln (by kernel_rfl) ?_
                  refine qln (by kernel_rfl) ?_
                  refine ql (.bool false) (by kernel_rfl) (by kernel_rfl) ?_
                  refine ql (.bool false) (by kernel_rfl) (by kernel_rfl) ?_
                  refine ql (.bool false) (by kernel_rfl) (by kernel_rfl) ?_
                  refine ql (.bool false) (by kernel_rfl) (by kernel_rfl) ?_
                  refine ql (.pointer (some ⟨k86, 0, none⟩)) (by kernel_rfl) (by kernel_rfl) ?_
                  refine ql (.slice Am m.length cm) (by kernel_rfl) (by kernel_rfl) ?_
                  refine qc (f := 38) (args := #[.pointer (some ⟨k86, 0, none⟩), .slice Am m.length cm]) (by kernel_rfl) (R_call #[.pointer (some ⟨k86, 0, none⟩), .slice Am m.length cm] Try.func38 (by kernel_rfl) (by kernel_rfl) (by kernel_rfl)) ?_
                  by_cases hall : allK n l m = true
                  · skip
                    refine (kallP k86 n x87 l Am cm m _ (HS.hasP (i := 2) rfl) hok88 (by omega) (by first | omega | decide | (rw [List.length_append]; omega)) (hrb.old0 HS) (by omega)).mono ?_
                    rintro e W164 ⟨rfl, H_⟩
                    rw [hall]
                    refine ⟨_, rfl, ?_⟩
                    replace HS : St W (owns []) W164 [row A90 ps.length c91 (cp ps) 22 1, many (ps.map (rwE 3)), many (knE Try.prog 83 3 3 105 98 113 110 k86 n x87)] := HS.join (F := []) (G := []) H_
                    clear H_
                    refine ql (.slice A90 ps.length c91) (by kernel_rfl) (by kernel_rfl) ?_
                    refine ql (.slice Am m.length cm) (by kernel_rfl) (by kernel_rfl) ?_
                    refine qc (f := 39) (args := #[.slice A90 ps.length c91, .slice Am m.length cm]) (by kernel_rfl) (R_call #[.slice A90 ps.length c91, .slice Am m.length cm] Try.func39 (by kernel_rfl) (by kernel_rfl) (by kernel_rfl)) ?_
                    refine (r31all A90 c91 ps n l Am cm m _ (Rd.row HS (i := 0) rfl) (fun p hp => rws_rd (A := p.1.1) (c := p.1.2) (l := p.2) (HS.hasP (i := 1) rfl) hp) hrm (by omega) (hrb.old0 HS) (by omega)).mono ?_
                    rintro e W165 ⟨rfl, H_⟩
                    rw [hall]
                    refine ⟨_, rfl, ?_⟩
                    replace HS : St W (owns []) W165 [row A90 ps.length c91 (cp ps) 22 1, many (ps.map (rwE 3)), many (knE Try.prog 83 3 3 105 98 113 110 k86 n x87)] := HS.join (F := []) (G := []) H_
                    clear H_
                    refine ql (.bool false) (by kernel_rfl) (by kernel_rfl) ?_
                    refine ql (.bool false) (by kernel_rfl) (by kernel_rfl) ?_
                    refine ql (.bool false) (by kernel_rfl) (by kernel_rfl) ?_
                    refine ql (.pointer (some ⟨k86, 0, none⟩)) (by kernel_rfl) (by kernel_rfl) ?_
                    refine qc (f := 41) (args := #[.pointer (some ⟨k86, 0, none⟩)]) (by kernel_rfl) (R_call #[.pointer (some ⟨k86, 0, none⟩)] Try.func41 (by kernel_rfl) (by kernel_rfl) (by kernel_rfl)) ?_
                    refine (kbndP k86 n x87 l _ (HS.hasP (i := 2) rfl) hok88 (by omega) (by first | omega | decide | (rw [List.length_append]; omega)) (by omega) (by omega)).mono ?_
                    rintro e W168 ⟨A166, c167, rfl, H_⟩
                    refine ⟨_, rfl, ?_⟩
                    replace HS : St W (owns []) W168 [row A166 ((bndL n l).length) c167 (cf prC (bndL n l)) 79 2, row A90 ps.length c91 (cp ps) 22 1, many (ps.map (rwE 3)), many (knE Try.prog 83 3 3 105 98 113 110 k86 n x87)] := HS.join (F := []) (G := [row A166 ((bndL n l).length) c167 (cf prC (bndL n l)) 79 2]) H_
                    clear H_
                    refine ql (.slice A90 ps.length c91) (by kernel_rfl) (by kernel_rfl) ?_
                    refine qc (f := 42) (args := #[.slice A90 ps.length c91]) (by kernel_rfl) (R_call #[.slice A90 ps.length c91] Try.func42 (by kernel_rfl) (by kernel_rfl) (by kernel_rfl)) ?_
                    refine (r31bnd A90 c91 ps n l _ (Rd.row HS (i := 1) rfl) (fun p hp => rws_rd (A := p.1.1) (c := p.1.2) (l := p.2) (HS.hasP (i := 2) rfl) hp) hrm (by omega)).mono ?_
                    rintro e W171 ⟨A169, c170, rfl, H_⟩
                    refine ⟨_, rfl, ?_⟩
                    replace HS : St W (owns []) W171 [row A169 ((bndL n l).length) c170 (cf prC (bndL n l)) 79 2, row A166 ((bndL n l).length) c167 (cf prC (bndL n l)) 79 2, row A90 ps.length c91 (cp ps) 22 1, many (ps.map (rwE 3)), many (knE Try.prog 83 3 3 105 98 113 110 k86 n x87)] := HS.join (F := []) (G := [row A169 ((bndL n l).length) c170 (cf prC (bndL n l)) 79 2]) H_
                    clear H_
                    refine qc (f := 40) (args := #[.slice A166 ((bndL n l).length) c167, .slice A169 ((bndL n l).length) c170]) (by kernel_rfl) (R_call #[.slice A166 ((bndL n l).length) c167, .slice A169 ((bndL n l).length) c170] Try.func40 (by kernel_rfl) (by kernel_rfl) (by kernel_rfl)) ?_
                    refine (r17b A166 A169 c167 c170 (bndL n l) (bndL n l) _ (Rd.row HS (i := 1) rfl) (Rd.row HS (i := 0) rfl) (by omega) (by omega)).mono ?_
                    rintro e W172 ⟨rfl, H_⟩
                    rw [decide_eq_true rfl]
                    refine ⟨_, rfl, ?_⟩
                    replace HS : St W (owns []) W172 [row A169 ((bndL n l).length) c170 (cf prC (bndL n l)) 79 2, row A166 ((bndL n l).length) c167 (cf prC (bndL n l)) 79 2, row A90 ps.length c91 (cp ps) 22 1, many (ps.map (rwE 3)), many (knE Try.prog 83 3 3 105 98 113 110 k86 n x87)] := HS.join (F := []) (G := []) H_
                    clear H_
                    refine ql (.bool false) (by kernel_rfl) (by kernel_rfl) ?_
                    refine ql (.bool false) (by kernel_rfl) (by kernel_rfl) ?_
                    refine wpList_nil ?_
                    refine x_then ?_
                    refine wp_cond_false (by kernel_rfl) ?_
                    refine wp_skip ?_
                    replace HS : St W (owns []) W172 [many (knE Try.prog 83 3 3 105 98 113 110 k86 n x87), row A90 ps.length c91 (cp ps) 22 1, many (ps.map (rwE 3))] := St.tail (F := [row A169 ((bndL n l).length) c170 (cf prC (bndL n l)) 79 2, row A166 ((bndL n l).length) c167 (cf prC (bndL n l)) 79 2]) (HS.perm (perm_ [0, 1, 4, 2, 3] (by kernel_rfl) rfl))
                    refine x_then ?_
                    exact ⟨(fun k_ : Nat => List.getD ((.int .i64 n) :: (.slice Al l.length cl) :: (.slice Am m.length cm) :: (.int .i64 a) :: (.int .i64 b) :: undef :: undef :: undef :: undef :: undef :: (.bool false) :: (.pointer (some ⟨k86, 0, none⟩)) :: (.slice A90 ps.length c91) :: undef :: undef :: undef :: (.slice Al l.length cl) :: (.int .i64 (l.length : Int)) :: (.bool false) :: (.bool false) :: (.slice Am m.length cm) :: (.int .i64 (m.length : Int)) :: (.bool false) :: (.bool false) :: (.bool false) :: (.int .i64 n) :: (.bool false) :: (.bool false) :: undef :: undef :: (.bool false) :: (.bool false) :: undef :: (.int .i64 n) :: (.slice Al l.length cl) :: (.pointer (some ⟨k86, 0, none⟩)) :: (.int .i64 n) :: (.slice Al l.length cl) :: (.slice A90 ps.length c91) :: (.pointer (some ⟨k86, 0, none⟩)) :: (.int .i64 n) :: (.slice A90 ps.length c91) :: (.int .i64 (ps.length : Int)) :: (.bool false) :: (.bool false) :: (.pointer (some ⟨k86, 0, none⟩)) :: (.int .i64 a) :: (.int .i64 b) :: (.bool false) :: (.slice A90 ps.length c91) :: (.int .i64 a) :: (.int .i64 b) :: (.bool false) :: (.bool false) :: (.bool false) :: (.bool false) :: (.pointer (some ⟨k86, 0, none⟩)) :: (.int .i64 a) :: (.int .i64 b) :: (.bool false) :: (.slice A90 ps.length c91) :: (.int .i64 a) :: (.int .i64 b) :: (.bool false) :: (.bool false) :: undef :: undef :: undef :: undef :: (.bool false) :: (.bool false) :: (.bool false) :: (.bool false) :: (.pointer (some ⟨k86, 0, none⟩)) :: (.slice Am m.length cm) :: (.bool true) :: (.slice A90 ps.length c91) :: (.slice Am m.length cm) :: (.bool true) :: (.bool false) :: (.bool false) :: (.bool false) :: (.pointer (some ⟨k86, 0, none⟩)) :: (.slice A166 ((bndL n l).length) c167) :: (.slice A90 ps.length c91) :: (.slice A169 ((bndL n l).length) c170) :: (.bool true) :: (.bool false) :: (.bool false) :: undef :: undef :: undef :: undef :: undef :: undef :: undef :: undef :: undef :: undef :: undef :: undef :: undef :: undef :: undef :: undef :: undef :: undef :: undef :: undef :: undef :: undef :: undef :: undef :: undef :: undef :: undef :: undef :: undef :: undef :: undef :: undef :: undef :: undef :: undef :: undef :: undef :: undef :: undef :: []) k_ undef), congrArg Fr (by kernel_rfl), HS⟩
                  · skip
                    refine (kallP k86 n x87 l Am cm m _ (HS.hasP (i := 2) rfl) hok88 (by omega) (by first | omega | decide | (rw [List.length_append]; omega)) (hrb.old0 HS) (by omega)).mono ?_
                    rintro e W173 ⟨rfl, H_⟩
                    rw [Bool.eq_false_iff.2 hall]
                    refine ⟨_, rfl, ?_⟩
                    replace HS : St W (owns []) W173 [row A90 ps.length c91 (cp ps) 22 1, many (ps.map (rwE 3)), many (knE Try.prog 83 3 3 105 98 113 110 k86 n x87)] := HS.join (F := []) (G := []) H_
                    clear H_
                    refine ql (.slice A90 ps.length c91) (by kernel_rfl) (by kernel_rfl) ?_
                    refine ql (.slice Am m.length cm) (by kernel_rfl) (by kernel_rfl) ?_
                    refine qc (f := 39) (args := #[.slice A90 ps.length c91, .slice Am m.length cm]) (by kernel_rfl) (R_call #[.slice A90 ps.length c91, .slice Am m.length cm] Try.func39 (by kernel_rfl) (by kernel_rfl) (by kernel_rfl)) ?_
                    refine (r31all A90 c91 ps n l Am cm m _ (Rd.row HS (i := 0) rfl) (fun p hp => rws_rd (A := p.1.1) (c := p.1.2) (l := p.2) (HS.hasP (i := 1) rfl) hp) hrm (by omega) (hrb.old0 HS) (by omega)).mono ?_
                    rintro e W174 ⟨rfl, H_⟩
                    rw [Bool.eq_false_iff.2 hall]
                    refine ⟨_, rfl, ?_⟩
                    replace HS : St W (owns []) W174 [row A90 ps.length c91 (cp ps) 22 1, many (ps.map (rwE 3)), many (knE Try.prog 83 3 3 105 98 113 110 k86 n x87)] := HS.join (F := []) (G := []) H_
                    clear H_
                    refine ql (.bool false) (by kernel_rfl) (by kernel_rfl) ?_
                    refine ql (.bool false) (by kernel_rfl) (by kernel_rfl) ?_
                    refine ql (.bool false) (by kernel_rfl) (by kernel_rfl) ?_
                    refine ql (.pointer (some ⟨k86, 0, none⟩)) (by kernel_rfl) (by kernel_rfl) ?_
                    refine qc (f := 41) (args := #[.pointer (some ⟨k86, 0, none⟩)]) (by kernel_rfl) (R_call #[.pointer (some ⟨k86, 0, none⟩)] Try.func41 (by kernel_rfl) (by kernel_rfl) (by kernel_rfl)) ?_
                    refine (kbndP k86 n x87 l _ (HS.hasP (i := 2) rfl) hok88 (by omega) (by first | omega | decide | (rw [List.length_append]; omega)) (by omega) (by omega)).mono ?_
                    rintro e W177 ⟨A175, c176, rfl, H_⟩
                    refine ⟨_, rfl, ?_⟩
                    replace HS : St W (owns []) W177 [row A175 ((bndL n l).length) c176 (cf prC (bndL n l)) 79 2, row A90 ps.length c91 (cp ps) 22 1, many (ps.map (rwE 3)), many (knE Try.prog 83 3 3 105 98 113 110 k86 n x87)] := HS.join (F := []) (G := [row A175 ((bndL n l).length) c176 (cf prC (bndL n l)) 79 2]) H_
                    clear H_
                    refine ql (.slice A90 ps.length c91) (by kernel_rfl) (by kernel_rfl) ?_
                    refine qc (f := 42) (args := #[.slice A90 ps.length c91]) (by kernel_rfl) (R_call #[.slice A90 ps.length c91] Try.func42 (by kernel_rfl) (by kernel_rfl) (by kernel_rfl)) ?_
                    refine (r31bnd A90 c91 ps n l _ (Rd.row HS (i := 1) rfl) (fun p hp => rws_rd (A := p.1.1) (c := p.1.2) (l := p.2) (HS.hasP (i := 2) rfl) hp) hrm (by omega)).mono ?_
                    rintro e W180 ⟨A178, c179, rfl, H_⟩
                    refine ⟨_, rfl, ?_⟩
                    replace HS : St W (owns []) W180 [row A178 ((bndL n l).length) c179 (cf prC (bndL n l)) 79 2, row A175 ((bndL n l).length) c176 (cf prC (bndL n l)) 79 2, row A90 ps.length c91 (cp ps) 22 1, many (ps.map (rwE 3)), many (knE Try.prog 83 3 3 105 98 113 110 k86 n x87)] := HS.join (F := []) (G := [row A178 ((bndL n l).length) c179 (cf prC (bndL n l)) 79 2]) H_
                    clear H_
                    refine qc (f := 40) (args := #[.slice A175 ((bndL n l).length) c176, .slice A178 ((bndL n l).length) c179]) (by kernel_rfl) (R_call #[.slice A175 ((bndL n l).length) c176, .slice A178 ((bndL n l).length) c179] Try.func40 (by kernel_rfl) (by kernel_rfl) (by kernel_rfl)) ?_
                    refine (r17b A175 A178 c176 c179 (bndL n l) (bndL n l) _ (Rd.row HS (i := 1) rfl) (Rd.row HS (i := 0) rfl) (by omega) (by omega)).mono ?_
                    rintro e W181 ⟨rfl, H_⟩
                    rw [decide_eq_true rfl]
                    refine ⟨_, rfl, ?_⟩
                    replace HS : St W (owns []) W181 [row A178 ((bndL n l).length) c179 (cf prC (bndL n l)) 79 2, row A175 ((bndL n l).length) c176 (cf prC (bndL n l)) 79 2, row A90 ps.length c91 (cp ps) 22 1, many (ps.map (rwE 3)), many (knE Try.prog 83 3 3 105 98 113 110 k86 n x87)] := HS.join (F := []) (G := []) H_
                    clear H_
                    refine ql (.bool false) (by kernel_rfl) (by kernel_rfl) ?_
                    refine ql (.bool false) (by kernel_rfl) (by kernel_rfl) ?_
                    refine wpList_nil ?_
                    refine x_then ?_
                    refine wp_cond_false (by kernel_rfl) ?_
                    refine wp_skip ?_
                    replace HS : St W (owns []) W181 [many (knE Try.prog 83 3 3 105 98 113 110 k86 n x87), row A90 ps.length c91 (cp ps) 22 1, many (ps.map (rwE 3))] := St.tail (F := [row A178 ((bndL n l).length) c179 (cf prC (bndL n l)) 79 2, row A175 ((bndL n l).length) c176 (cf prC (bndL n l)) 79 2]) (HS.perm (perm_ [0, 1, 4, 2, 3] (by kernel_rfl) rfl))
                    refine x_then ?_
                    exact ⟨(fun k_ : Nat => List.getD ((.int .i64 n) :: (.slice Al l.length cl) :: (.slice Am m.length cm) :: (.int .i64 a) :: (.int .i64 b) :: undef :: undef :: undef :: undef :: undef :: (.bool false) :: (.pointer (some ⟨k86, 0, none⟩)) :: (.slice A90 ps.length c91) :: undef :: undef :: undef :: (.slice Al l.length cl) :: (.int .i64 (l.length : Int)) :: (.bool false) :: (.bool false) :: (.slice Am m.length cm) :: (.int .i64 (m.length : Int)) :: (.bool false) :: (.bool false) :: (.bool false) :: (.int .i64 n) :: (.bool false) :: (.bool false) :: undef :: undef :: (.bool false) :: (.bool false) :: undef :: (.int .i64 n) :: (.slice Al l.length cl) :: (.pointer (some ⟨k86, 0, none⟩)) :: (.int .i64 n) :: (.slice Al l.length cl) :: (.slice A90 ps.length c91) :: (.pointer (some ⟨k86, 0, none⟩)) :: (.int .i64 n) :: (.slice A90 ps.length c91) :: (.int .i64 (ps.length : Int)) :: (.bool false) :: (.bool false) :: (.pointer (some ⟨k86, 0, none⟩)) :: (.int .i64 a) :: (.int .i64 b) :: (.bool false) :: (.slice A90 ps.length c91) :: (.int .i64 a) :: (.int .i64 b) :: (.bool false) :: (.bool false) :: (.bool false) :: (.bool false) :: (.pointer (some ⟨k86, 0, none⟩)) :: (.int .i64 a) :: (.int .i64 b) :: (.bool false) :: (.slice A90 ps.length c91) :: (.int .i64 a) :: (.int .i64 b) :: (.bool false) :: (.bool false) :: undef :: undef :: undef :: undef :: (.bool false) :: (.bool false) :: (.bool false) :: (.bool false) :: (.pointer (some ⟨k86, 0, none⟩)) :: (.slice Am m.length cm) :: (.bool false) :: (.slice A90 ps.length c91) :: (.slice Am m.length cm) :: (.bool false) :: (.bool false) :: (.bool false) :: (.bool false) :: (.pointer (some ⟨k86, 0, none⟩)) :: (.slice A175 ((bndL n l).length) c176) :: (.slice A90 ps.length c91) :: (.slice A178 ((bndL n l).length) c179) :: (.bool true) :: (.bool false) :: (.bool false) :: undef :: undef :: undef :: undef :: undef :: undef :: undef :: undef :: undef :: undef :: undef :: undef :: undef :: undef :: undef :: undef :: undef :: undef :: undef :: undef :: undef :: undef :: undef :: undef :: undef :: undef :: undef :: undef :: undef :: undef :: undef :: undef :: undef :: undef :: undef :: undef :: undef :: undef :: undef :: []) k_ undef), congrArg Fr (by kernel_rfl), HS⟩
            · skip
              refine ql (.bool true) (by kernel_rfl) (R_beq (b := (n != (ps.length : Int))) (by kernel_rfl) (bne_t (hc95))) ?_
              refine ql (.bool true) (by kernel_rfl) (by kernel_rfl) ?_
              refine qln (by kernel_rfl) ?_
              refine qln (by kernel_rfl) ?_
              refine qln (by kernel_rfl) ?_
              refine qln (by kernel_rfl) ?_
              refine qln (by kernel_rfl) ?_
              refine qln (by kernel_rfl) ?_
              refine qln (by kernel_rfl) ?_
              refine qln (by kernel_rfl) ?_
              refine qln (by kernel_rfl) ?_
              refine ql (.bool true) (by kernel_rfl) (by kernel_rfl) ?_
              refine ql (.bool true) (by kernel_rfl) (by kernel_rfl) ?_
              refine qln (by kernel_rfl) ?_
              refine qln (by kernel_rfl) ?_
              refine qln (by kernel_rfl) ?_
              refine qln (by kernel_rfl) ?_
              refine qln (by kernel_rfl) ?_
              refine qln (by kernel_rfl) ?_
              refine qln (by kernel_rfl) ?_
              refine qln (by kernel_rfl) ?_
              refine qln (by kernel_rfl) ?_
              refine qln (by kernel_rfl) ?_
              refine qln (by kernel_rfl) ?_
              refine qln (by kernel_rfl) ?_
              refine qln (by kernel_rfl) ?_
              refine qln (by kernel_rfl) ?_
              refine qln (by kernel_rfl) ?_
              refine ql (.bool true) (by kernel_rfl) (by kernel_rfl) ?_
              refine ql (.bool true) (by kernel_rfl) (by kernel_rfl) ?_
              refine qln (by kernel_rfl) ?_
              refine qln (by kernel_rfl) ?_
              refine qln (by kernel_rfl) ?_
              refine qln (by kernel_rfl) ?_
              refine qln (by kernel_rfl) ?_
              refine qln (by kernel_rfl) ?_
              refine qln (by kernel_rfl) ?_
              refine ql (.bool true) (by kernel_rfl) (by kernel_rfl) ?_
              refine ql (.bool true) (by kernel_rfl) (by kernel_rfl) ?_
              refine qln (by kernel_rfl) ?_
              refine qln (by kernel_rfl) ?_
              refine qln (by kernel_rfl) ?_
              refine qln (by kernel_rfl) ?_
              refine qln (by kernel_rfl) ?_
              refine qln (by kernel_rfl) ?_
              refine ql (.bool true) (by kernel_rfl) (by kernel_rfl) ?_
              refine wpList_nil ?_
              refine x_then ?_
              refine wp_cond_true (by kernel_rfl) ?_
              refine wp_seq ?_
              refine wp_region_lit ?_
              refine ql (.bool false) (by kernel_rfl) (by kernel_rfl) ?_
              refine wpList_nil ?_
              refine x_then ?_
              refine wp_ret ?_
              refine x_thenR ?_
              refine ret_ (.bool false) (by kernel_rfl) ?_
              exfalso; omega
          · clear HS
            rintro a' W182 ⟨u93, rfl, HS⟩
            refine wp_seq ?_
            refine wp_region_lit ?_
            refine kl HS 0 [] 3 1 (by kernel_rfl) (by kernel_rfl) rfl (by decide) ?_
            intro g183 W184 H_
            replace HS : St W (owns []) W184 [row (some ⟨g183, 0, none⟩) 0 0 (ci .i64 ([])) 3 1, many (knE Try.prog 83 3 3 105 98 113 110 k86 n x87), row A90 ps.length c91 (cp ps) 22 1, many (ps.map (rwE 3))] := H_.cast_ (by kernel_rfl)
            clear H_
            refine kl HS 0 [] 3 1 (by kernel_rfl) (by kernel_rfl) rfl (by decide) ?_
            intro g185 W186 H_
            replace HS : St W (owns []) W186 [row (some ⟨g185, 0, none⟩) 0 0 (ci .i64 ([])) 3 1, row (some ⟨g183, 0, none⟩) 0 0 (ci .i64 ([])) 3 1, many (knE Try.prog 83 3 3 105 98 113 110 k86 n x87), row A90 ps.length c91 (cp ps) 22 1, many (ps.map (rwE 3))] := H_.cast_ (by kernel_rfl)
            clear H_
            refine ql (.slice (some ⟨g183, 0, none⟩) 0 0) (by kernel_rfl) (by kernel_rfl) ?_
            refine ql (.slice (some ⟨g185, 0, none⟩) 0 0) (by kernel_rfl) (by kernel_rfl) ?_
            refine wpList_nil ?_
            refine x_then ?_
            refine wp_seq ?_
            refine wp_seq ?_
            refine wp_region_lit ?_
            refine ql (.int .i64 0) (by kernel_rfl) (by kernel_rfl) ?_
            refine wpList_nil ?_
            refine x_then ?_
            refine wp_block ?_
            replace HS : St W (owns []) W186 [many (knE Try.prog 83 3 3 105 98 113 110 k86 n x87), row A90 ps.length c91 (cp ps) 22 1, many (ps.map (rwE 3)), row (some ⟨g183, 0, none⟩) 0 0 (ci .i64 ([])) 3 1, row (some ⟨g185, 0, none⟩) 0 0 (ci .i64 ([])) 3 1] := St.tail (F := []) (HS.perm (perm_ [2, 3, 4, 1, 0] (by kernel_rfl) rfl))
            refine wp_loop_ghost (fun kq a' w' => ∃ (J187 : Nat → Value) (r : Int) (L1 : List Int) (L2 : List Int) (A1 : Option Addr) (c1 : Nat) (A2 : Option Addr) (c2 : Nat) , a' = Fr ((.int .i64 n) :: (.slice Al l.length cl) :: (.slice Am m.length cm) :: (.int .i64 a) :: (.int .i64 b) :: undef :: undef :: undef :: undef :: undef :: ((u93 10)) :: (.pointer (some ⟨k86, 0, none⟩)) :: (.slice A90 ps.length c91) :: (.slice A1 L1.length c1) :: (.slice A2 L2.length c2) :: (.int .i64 r) :: (.slice Al l.length cl) :: (.int .i64 (l.length : Int)) :: (.bool false) :: (.bool false) :: (.slice Am m.length cm) :: (.int .i64 (m.length : Int)) :: (.bool false) :: (.bool false) :: (.bool false) :: (.int .i64 n) :: (.bool false) :: (.bool false) :: undef :: undef :: (.bool false) :: (.bool false) :: undef :: (.int .i64 n) :: (.slice Al l.length cl) :: (.pointer (some ⟨k86, 0, none⟩)) :: (.int .i64 n) :: (.slice Al l.length cl) :: (.slice A90 ps.length c91) :: ((u93 39)) :: ((u93 40)) :: ((u93 41)) :: ((u93 42)) :: ((u93 43)) :: ((u93 44)) :: ((u93 45)) :: ((u93 46)) :: ((u93 47)) :: ((u93 48)) :: ((u93 49)) :: ((u93 50)) :: ((u93 51)) :: ((u93 52)) :: ((u93 53)) :: ((u93 54)) :: ((u93 55)) :: ((u93 56)) :: ((u93 57)) :: ((u93 58)) :: ((u93 59)) :: ((u93 60)) :: ((u93 61)) :: ((u93 62)) :: ((u93 63)) :: ((u93 64)) :: ((u93 65)) :: ((u93 66)) :: ((u93 67)) :: ((u93 68)) :: ((u93 69)) :: ((u93 70)) :: ((u93 71)) :: ((u93 72)) :: ((u93 73)) :: ((u93 74)) :: ((u93 75)) :: ((u93 76)) :: ((u93 77)) :: ((u93 78)) :: ((u93 79)) :: ((u93 80)) :: ((u93 81)) :: ((u93 82)) :: ((u93 83)) :: ((u93 84)) :: ((u93 85)) :: ((u93 86)) :: ((u93 87)) :: ((u93 88)) :: (.slice (some ⟨g183, 0, none⟩) 0 0) :: (.slice (some ⟨g185, 0, none⟩) 0 0) :: ((J187 91)) :: ((J187 92)) :: ((J187 93)) :: ((J187 94)) :: ((J187 95)) :: ((J187 96)) :: ((J187 97)) :: ((J187 98)) :: ((J187 99)) :: ((J187 100)) :: ((J187 101)) :: ((J187 102)) :: ((J187 103)) :: ((J187 104)) :: ((J187 105)) :: ((J187 106)) :: ((J187 107)) :: ((J187 108)) :: ((J187 109)) :: ((J187 110)) :: ((J187 111)) :: ((J187 112)) :: undef :: undef :: undef :: undef :: undef :: undef :: undef :: undef :: undef :: undef :: undef :: undef :: undef :: undef :: undef :: []) ∧ kq = ((n - r).toNat) ∧ (0 ≤ r) ∧ (r ≤ n) ∧ (L1 = subsL n l a r) ∧ (L2 = supsL n l a r) ∧ St W (owns []) w' [many (knE Try.prog 83 3 3 105 98 113 110 k86 n x87), row A90 ps.length c91 (cp ps) 22 1, many (ps.map (rwE 3)), row A1 L1.length c1 (ci .i64 L1) 3 1, row A2 L2.length c2 (ci .i64 L2) 3 1]) ((n - (0 : Int)).toNat) ⟨(fun k_ : Nat => List.getD ((.int .i64 n) :: (.slice Al l.length cl) :: (.slice Am m.length cm) :: (.int .i64 a) :: (.int .i64 b) :: undef :: undef :: undef :: undef :: undef :: ((u93 10)) :: (.pointer (some ⟨k86, 0, none⟩)) :: (.slice A90 ps.length c91) :: (.slice (some ⟨g183, 0, none⟩) 0 0) :: (.slice (some ⟨g185, 0, none⟩) 0 0) :: (.int .i64 0) :: (.slice Al l.length cl) :: (.int .i64 (l.length : Int)) :: (.bool false) :: (.bool false) :: (.slice Am m.length cm) :: (.int .i64 (m.length : Int)) :: (.bool false) :: (.bool false) :: (.bool false) :: (.int .i64 n) :: (.bool false) :: (.bool false) :: undef :: undef :: (.bool false) :: (.bool false) :: undef :: (.int .i64 n) :: (.slice Al l.length cl) :: (.pointer (some ⟨k86, 0, none⟩)) :: (.int .i64 n) :: (.slice Al l.length cl) :: (.slice A90 ps.length c91) :: ((u93 39)) :: ((u93 40)) :: ((u93 41)) :: ((u93 42)) :: ((u93 43)) :: ((u93 44)) :: ((u93 45)) :: ((u93 46)) :: ((u93 47)) :: ((u93 48)) :: ((u93 49)) :: ((u93 50)) :: ((u93 51)) :: ((u93 52)) :: ((u93 53)) :: ((u93 54)) :: ((u93 55)) :: ((u93 56)) :: ((u93 57)) :: ((u93 58)) :: ((u93 59)) :: ((u93 60)) :: ((u93 61)) :: ((u93 62)) :: ((u93 63)) :: ((u93 64)) :: ((u93 65)) :: ((u93 66)) :: ((u93 67)) :: ((u93 68)) :: ((u93 69)) :: ((u93 70)) :: ((u93 71)) :: ((u93 72)) :: ((u93 73)) :: ((u93 74)) :: ((u93 75)) :: ((u93 76)) :: ((u93 77)) :: ((u93 78)) :: ((u93 79)) :: ((u93 80)) :: ((u93 81)) :: ((u93 82)) :: ((u93 83)) :: ((u93 84)) :: ((u93 85)) :: ((u93 86)) :: ((u93 87)) :: ((u93 88)) :: (.slice (some ⟨g183, 0, none⟩) 0 0) :: (.slice (some ⟨g185, 0, none⟩) 0 0) :: undef :: undef :: undef :: undef :: undef :: undef :: undef :: undef :: undef :: undef :: undef :: undef :: undef :: undef :: undef :: undef :: undef :: undef :: undef :: undef :: undef :: undef :: undef :: undef :: undef :: undef :: undef :: undef :: undef :: undef :: undef :: undef :: undef :: undef :: undef :: undef :: undef :: []) k_ undef), (0 : Int), [], [], some ⟨g183, 0, none⟩, 0, some ⟨g185, 0, none⟩, 0, congrArg Fr (by kernel_rfl), rfl, by omega, by omega, rfl, rfl, HS⟩ ?_
            clear HS
            intro kq188 a' W189 hrel
            obtain ⟨J187, r, L1, L2, A1, c1, A2, c2, rfl, hk, r0, r1, hqsubs, hqsups, HS⟩ := hrel
            have hz1 := subs_len n l a r
            have hz2 := sups_len n l a r
            rw [← hqsubs] at hz1
            rw [← hqsups] at hz2
            refine wp_seq ?_
            refine wp_seq ?_
            refine wp_region_lit ?_
            refine ql (.int .i64 r) (by kernel_rfl) (by kernel_rfl) ?_
            refine ql (.slice A90 ps.length c91) (by kernel_rfl) (by kernel_rfl) ?_
            refine ql (.int .i64 (ps.length : Int)) (by kernel_rfl) (by kernel_rfl) ?_
            by_cases hc190 : r < (ps.length : Int)
            · skip
              refine ql (.bool true) (by kernel_rfl) (R_bool (p := r < (ps.length : Int)) (by kernel_rfl) (hc190)) ?_
              refine wpList_nil ?_
              refine x_then ?_
              refine wp_cond_true (by kernel_rfl) ?_
              refine wp_skip ?_
              refine x_then ?_
              refine wp_seq ?_
              refine wp_block ?_
              refine wp_seq ?_
              refine wp_seq ?_
              refine wp_region_lit ?_
              refine ql (.slice A90 ps.length c91) (by kernel_rfl) (by kernel_rfl) ?_
              refine ql (.int .i64 a) (by kernel_rfl) (by kernel_rfl) ?_
              refine ql (.int .i64 r) (by kernel_rfl) (by kernel_rfl) ?_
              refine qc (f := 37) (args := #[.slice A90 ps.length c91, .int .i64 a, .int .i64 r]) (by kernel_rfl) (R_call #[.slice A90 ps.length c91, .int .i64 a, .int .i64 r] Try.func37 (by kernel_rfl) (by kernel_rfl) (by kernel_rfl)) ?_
              by_cases hK_a_r : knB n l a r = true
              · skip
                refine (r31has A90 c91 ps n l a r _ (Rd.row HS (i := 1) rfl) (fun p hp => rws_rd (A := p.1.1) (c := p.1.2) (l := p.2) (HS.hasP (i := 2) rfl) hp) hrm (by omega)).mono ?_
                rintro e W191 ⟨rfl, H_⟩
                rw [hK_a_r]
                refine ⟨_, rfl, ?_⟩
                replace HS : St W (owns []) W191 [many (knE Try.prog 83 3 3 105 98 113 110 k86 n x87), row A90 ps.length c91 (cp ps) 22 1, many (ps.map (rwE 3)), row A1 L1.length c1 (ci .i64 L1) 3 1, row A2 L2.length c2 (ci .i64 L2) 3 1] := HS.join (F := []) (G := []) H_
                clear H_
                refine wpList_nil ?_
                refine x_then ?_
                refine wp_cond_true (by kernel_rfl) ?_
                refine wp_region_lit ?_
                refine ql (.slice A1 L1.length c1) (by kernel_rfl) (by kernel_rfl) ?_
                refine ql (.int .i64 r) (by kernel_rfl) (by kernel_rfl) ?_
                refine kl HS 1 [.int .i64 r] 3 1 (by kernel_rfl) (by kernel_rfl) rfl (by decide) ?_
                intro g192 W193 H_
                replace HS : St W (owns []) W193 [row (some ⟨g192, 0, none⟩) 1 1 (ci .i64 ([r])) 3 1, many (knE Try.prog 83 3 3 105 98 113 110 k86 n x87), row A90 ps.length c91 (cp ps) 22 1, many (ps.map (rwE 3)), row A1 L1.length c1 (ci .i64 L1) 3 1, row A2 L2.length c2 (ci .i64 L2) 3 1] := H_.cast_ (by kernel_rfl)
                clear H_
                obtain ⟨xs197, xs197_⟩ : ∃ z_ : List Int, z_ = L1 ++ ([r]) := ⟨_, rfl⟩
                have xs197l : xs197.length = L1.length + 1 := by rw [xs197_, List.length_append] <;> (try simp only [List.length_cons, List.length_nil]) <;> omega
                refine ka1 HS 4 rfl (Src.of_row HS (i := 0) rfl ci_one) [.int .i64 0] 8 xs197.length (ci .i64 xs197) (by omega) (by rw [xs197_, ci_app]) (by kernel_rfl) (by kernel_rfl) (by kernel_rfl) Try.underlying22 (by kernel_rfl) (by kernel_rfl) (by kernel_rfl) (by kernel_rfl) (by decide) (by omega) (by omega) ?_
                intro A194 c195 W196 H_
                replace HS : St W (owns []) W196 [row (some ⟨g192, 0, none⟩) 1 1 (ci .i64 ([r])) 3 1, many (knE Try.prog 83 3 3 105 98 113 110 k86 n x87), row A90 ps.length c91 (cp ps) 22 1, many (ps.map (rwE 3)), row A194 xs197.length c195 (ci .i64 xs197) 3 1, row A2 L2.length c2 (ci .i64 L2) 3 1] := H_
                clear H_
                refine ql (.slice A194 xs197.length c195) (by kernel_rfl) (by kernel_rfl) ?_
                refine wpList_nil ?_
                refine x_then ?_
                refine wp_seq ?_
                refine wp_region_lit ?_
                refine ql (.slice A90 ps.length c91) (by kernel_rfl) (by kernel_rfl) ?_
                refine ql (.int .i64 r) (by kernel_rfl) (by kernel_rfl) ?_
                refine ql (.int .i64 a) (by kernel_rfl) (by kernel_rfl) ?_
                refine qc (f := 37) (args := #[.slice A90 ps.length c91, .int .i64 r, .int .i64 a]) (by kernel_rfl) (R_call #[.slice A90 ps.length c91, .int .i64 r, .int .i64 a] Try.func37 (by kernel_rfl) (by kernel_rfl) (by kernel_rfl)) ?_
                by_cases hK_r_a : knB n l r a = true
                · skip
                  refine (r31has A90 c91 ps n l r a _ (Rd.row HS (i := 2) rfl) (fun p hp => rws_rd (A := p.1.1) (c := p.1.2) (l := p.2) (HS.hasP (i := 3) rfl) hp) hrm (by omega)).mono ?_
                  rintro e W198 ⟨rfl, H_⟩
                  rw [hK_r_a]
                  refine ⟨_, rfl, ?_⟩
                  replace HS : St W (owns []) W198 [row (some ⟨g192, 0, none⟩) 1 1 (ci .i64 ([r])) 3 1, many (knE Try.prog 83 3 3 105 98 113 110 k86 n x87), row A90 ps.length c91 (cp ps) 22 1, many (ps.map (rwE 3)), row A194 xs197.length c195 (ci .i64 xs197) 3 1, row A2 L2.length c2 (ci .i64 L2) 3 1] := HS.join (F := []) (G := []) H_
                  clear H_
                  refine wpList_nil ?_
                  refine x_then ?_
                  refine wp_cond_true (by kernel_rfl) ?_
                  refine wp_region_lit ?_
                  refine ql (.slice A2 L2.length c2) (by kernel_rfl) (by kernel_rfl) ?_
                  refine ql (.int .i64 r) (by kernel_rfl) (by kernel_rfl) ?_
                  refine kl HS 1 [.int .i64 r] 3 1 (by kernel_rfl) (by kernel_rfl) rfl (by decide) ?_
                  intro g199 W200 H_
                  replace HS : St W (owns []) W200 [row (some ⟨g199, 0, none⟩) 1 1 (ci .i64 ([r])) 3 1, row (some ⟨g192, 0, none⟩) 1 1 (ci .i64 ([r])) 3 1, many (knE Try.prog 83 3 3 105 98 113 110 k86 n x87), row A90 ps.length c91 (cp ps) 22 1, many (ps.map (rwE 3)), row A194 xs197.length c195 (ci .i64 xs197) 3 1, row A2 L2.length c2 (ci .i64 L2) 3 1] := H_.cast_ (by kernel_rfl)
                  clear H_
                  obtain ⟨xs204, xs204_⟩ : ∃ z_ : List Int, z_ = L2 ++ ([r]) := ⟨_, rfl⟩
                  have xs204l : xs204.length = L2.length + 1 := by rw [xs204_, List.length_append] <;> (try simp only [List.length_cons, List.length_nil]) <;> omega
                  refine ka1 HS 6 rfl (Src.of_row HS (i := 0) rfl ci_one) [.int .i64 0] 8 xs204.length (ci .i64 xs204) (by omega) (by rw [xs204_, ci_app]) (by kernel_rfl) (by kernel_rfl) (by kernel_rfl) Try.underlying22 (by kernel_rfl) (by kernel_rfl) (by kernel_rfl) (by kernel_rfl) (by decide) (by omega) (by omega) ?_
                  intro A201 c202 W203 H_
                  replace HS : St W (owns []) W203 [row (some ⟨g199, 0, none⟩) 1 1 (ci .i64 ([r])) 3 1, row (some ⟨g192, 0, none⟩) 1 1 (ci .i64 ([r])) 3 1, many (knE Try.prog 83 3 3 105 98 113 110 k86 n x87), row A90 ps.length c91 (cp ps) 22 1, many (ps.map (rwE 3)), row A194 xs197.length c195 (ci .i64 xs197) 3 1, row A201 xs204.length c202 (ci .i64 xs204) 3 1] := H_
                  clear H_
                  refine ql (.slice A201 xs204.length c202) (by kernel_rfl) (by kernel_rfl) ?_
                  refine wpList_nil ?_
                  refine x_inb ?_
                  refine x_then ?_
                  refine wp_region_lit ?_
                  refine ql (.int .i64 r) (by kernel_rfl) (by kernel_rfl) ?_
                  refine ql (.int .i64 (r + 1)) (by kernel_rfl) (R_int (by kernel_rfl) (w64 (by omega))) ?_
                  refine ql (.int .i64 (r + 1)) (by kernel_rfl) (by kernel_rfl) ?_
                  refine wpList_nil ?_
                  replace HS := HS.drop1
                  replace HS := HS.drop1
                  refine x_then ?_
                  exact ⟨(n - (r + 1)).toNat, by omega, (fun k_ : Nat => List.getD ((.int .i64 n) :: (.slice Al l.length cl) :: (.slice Am m.length cm) :: (.int .i64 a) :: (.int .i64 b) :: undef :: undef :: undef :: undef :: undef :: ((u93 10)) :: (.pointer (some ⟨k86, 0, none⟩)) :: (.slice A90 ps.length c91) :: (.slice A194 xs197.length c195) :: (.slice A201 xs204.length c202) :: (.int .i64 (r + 1)) :: (.slice Al l.length cl) :: (.int .i64 (l.length : Int)) :: (.bool false) :: (.bool false) :: (.slice Am m.length cm) :: (.int .i64 (m.length : Int)) :: (.bool false) :: (.bool false) :: (.bool false) :: (.int .i64 n) :: (.bool false) :: (.bool false) :: undef :: undef :: (.bool false) :: (.bool false) :: undef :: (.int .i64 n) :: (.slice Al l.length cl) :: (.pointer (some ⟨k86, 0, none⟩)) :: (.int .i64 n) :: (.slice Al l.length cl) :: (.slice A90 ps.length c91) :: ((u93 39)) :: ((u93 40)) :: ((u93 41)) :: ((u93 42)) :: ((u93 43)) :: ((u93 44)) :: ((u93 45)) :: ((u93 46)) :: ((u93 47)) :: ((u93 48)) :: ((u93 49)) :: ((u93 50)) :: ((u93 51)) :: ((u93 52)) :: ((u93 53)) :: ((u93 54)) :: ((u93 55)) :: ((u93 56)) :: ((u93 57)) :: ((u93 58)) :: ((u93 59)) :: ((u93 60)) :: ((u93 61)) :: ((u93 62)) :: ((u93 63)) :: ((u93 64)) :: ((u93 65)) :: ((u93 66)) :: ((u93 67)) :: ((u93 68)) :: ((u93 69)) :: ((u93 70)) :: ((u93 71)) :: ((u93 72)) :: ((u93 73)) :: ((u93 74)) :: ((u93 75)) :: ((u93 76)) :: ((u93 77)) :: ((u93 78)) :: ((u93 79)) :: ((u93 80)) :: ((u93 81)) :: ((u93 82)) :: ((u93 83)) :: ((u93 84)) :: ((u93 85)) :: ((u93 86)) :: ((u93 87)) :: ((u93 88)) :: (.slice (some ⟨g183, 0, none⟩) 0 0) :: (.slice (some ⟨g185, 0, none⟩) 0 0) :: (.int .i64 r) :: (.slice A90 ps.length c91) :: (.int .i64 (ps.length : Int)) :: (.bool true) :: (.int .i64 r) :: (.int .i64 (r + 1)) :: (.slice A90 ps.length c91) :: (.int .i64 a) :: (.int .i64 r) :: (.bool true) :: (.slice A1 L1.length c1) :: (.int .i64 r) :: (.slice (some ⟨g192, 0, none⟩) 1 1) :: (.slice A194 xs197.length c195) :: (.slice A90 ps.length c91) :: (.int .i64 r) :: (.int .i64 a) :: (.bool true) :: (.slice A2 L2.length c2) :: (.int .i64 r) :: (.slice (some ⟨g199, 0, none⟩) 1 1) :: (.slice A201 xs204.length c202) :: undef :: undef :: undef :: undef :: undef :: undef :: undef :: undef :: undef :: undef :: undef :: undef :: undef :: undef :: undef :: []) k_ undef), (r + 1), xs197, xs204, A194, c195, A201, c202, congrArg Fr (by kernel_rfl), rfl, by omega, by omega, (by rw [xs197_, hqsubs, subs_t r0 hK_a_r]), (by rw [xs204_, hqsups, sups_t r0 hK_r_a]), HS⟩
                · skip
                  refine (r31has A90 c91 ps n l r a _ (Rd.row HS (i := 2) rfl) (fun p hp => rws_rd (A := p.1.1) (c := p.1.2) (l := p.2) (HS.hasP (i := 3) rfl) hp) hrm (by omega)).mono ?_
                  rintro e W205 ⟨rfl, H_⟩
                  rw [Bool.eq_false_iff.2 hK_r_a]
                  refine ⟨_, rfl, ?_⟩
                  replace HS : St W (owns []) W205 [row (some ⟨g192, 0, none⟩) 1 1 (ci .i64 ([r])) 3 1, many (knE Try.prog 83 3 3 105 98 113 110 k86 n x87), row A90 ps.length c91 (cp ps) 22 1, many (ps.map (rwE 3)), row A194 xs197.length c195 (ci .i64 xs197) 3 1, row A2 L2.length c2 (ci .i64 L2) 3 1] := HS.join (F := []) (G := []) H_
                  clear H_
                  refine wpList_nil ?_
                  refine x_then ?_
                  refine wp_cond_false (by kernel_rfl) ?_
                  refine wp_skip ?_
                  refine x_inb ?_
                  refine x_then ?_
                  refine wp_region_lit ?_
                  refine ql (.int .i64 r) (by kernel_rfl) (by kernel_rfl) ?_
                  refine ql (.int .i64 (r + 1)) (by kernel_rfl) (R_int (by kernel_rfl) (w64 (by omega))) ?_
                  refine ql (.int .i64 (r + 1)) (by kernel_rfl) (by kernel_rfl) ?_
                  refine wpList_nil ?_
                  replace HS := HS.drop1
                  refine x_then ?_
                  exact ⟨(n - (r + 1)).toNat, by omega, (fun k_ : Nat => List.getD ((.int .i64 n) :: (.slice Al l.length cl) :: (.slice Am m.length cm) :: (.int .i64 a) :: (.int .i64 b) :: undef :: undef :: undef :: undef :: undef :: ((u93 10)) :: (.pointer (some ⟨k86, 0, none⟩)) :: (.slice A90 ps.length c91) :: (.slice A194 xs197.length c195) :: (.slice A2 L2.length c2) :: (.int .i64 (r + 1)) :: (.slice Al l.length cl) :: (.int .i64 (l.length : Int)) :: (.bool false) :: (.bool false) :: (.slice Am m.length cm) :: (.int .i64 (m.length : Int)) :: (.bool false) :: (.bool false) :: (.bool false) :: (.int .i64 n) :: (.bool false) :: (.bool false) :: undef :: undef :: (.bool false) :: (.bool false) :: undef :: (.int .i64 n) :: (.slice Al l.length cl) :: (.pointer (some ⟨k86, 0, none⟩)) :: (.int .i64 n) :: (.slice Al l.length cl) :: (.slice A90 ps.length c91) :: ((u93 39)) :: ((u93 40)) :: ((u93 41)) :: ((u93 42)) :: ((u93 43)) :: ((u93 44)) :: ((u93 45)) :: ((u93 46)) :: ((u93 47)) :: ((u93 48)) :: ((u93 49)) :: ((u93 50)) :: ((u93 51)) :: ((u93 52)) :: ((u93 53)) :: ((u93 54)) :: ((u93 55)) :: ((u93 56)) :: ((u93 57)) :: ((u93 58)) :: ((u93 59)) :: ((u93 60)) :: ((u93 61)) :: ((u93 62)) :: ((u93 63)) :: ((u93 64)) :: ((u93 65)) :: ((u93 66)) :: ((u93 67)) :: ((u93 68)) :: ((u93 69)) :: ((u93 70)) :: ((u93 71)) :: ((u93 72)) :: ((u93 73)) :: ((u93 74)) :: ((u93 75)) :: ((u93 76)) :: ((u93 77)) :: ((u93 78)) :: ((u93 79)) :: ((u93 80)) :: ((u93 81)) :: ((u93 82)) :: ((u93 83)) :: ((u93 84)) :: ((u93 85)) :: ((u93 86)) :: ((u93 87)) :: ((u93 88)) :: (.slice (some ⟨g183, 0, none⟩) 0 0) :: (.slice (some ⟨g185, 0, none⟩) 0 0) :: (.int .i64 r) :: (.slice A90 ps.length c91) :: (.int .i64 (ps.length : Int)) :: (.bool true) :: (.int .i64 r) :: (.int .i64 (r + 1)) :: (.slice A90 ps.length c91) :: (.int .i64 a) :: (.int .i64 r) :: (.bool true) :: (.slice A1 L1.length c1) :: (.int .i64 r) :: (.slice (some ⟨g192, 0, none⟩) 1 1) :: (.slice A194 xs197.length c195) :: (.slice A90 ps.length c91) :: (.int .i64 r) :: (.int .i64 a) :: (.bool false) :: ((J187 109)) :: ((J187 110)) :: ((J187 111)) :: ((J187 112)) :: undef :: undef :: undef :: undef :: undef :: undef :: undef :: undef :: undef :: undef :: undef :: undef :: undef :: undef :: undef :: []) k_ undef), (r + 1), xs197, L2, A194, c195, A2, c2, congrArg Fr (by kernel_rfl), rfl, by omega, by omega, (by rw [xs197_, hqsubs, subs_t r0 hK_a_r]), (by rw [hqsups, sups_f r0 (Bool.eq_false_iff.2 hK_r_a)]), HS⟩
              · skip
                refine (r31has A90 c91 ps n l a r _ (Rd.row HS (i := 1) rfl) (fun p hp => rws_rd (A := p.1.1) (c := p.1.2) (l := p.2) (HS.hasP (i := 2) rfl) hp) hrm (by omega)).mono ?_
                rintro e W206 ⟨rfl, H_⟩
                rw [Bool.eq_false_iff.2 hK_a_r]
                refine ⟨_, rfl, ?_⟩
                replace HS : St W (owns []) W206 [many (knE Try.prog 83 3 3 105 98 113 110 k86 n x87), row A90 ps.length c91 (cp ps) 22 1, many (ps.map (rwE 3)), row A1 L1.length c1 (ci .i64 L1) 3 1, row A2 L2.length c2 (ci .i64 L2) 3 1] := HS.join (F := []) (G := []) H_
                clear H_
                refine wpList_nil ?_
                refine x_then ?_
                refine wp_cond_false (by kernel_rfl) ?_
                refine wp_skip ?_
                refine x_then ?_
                refine wp_seq ?_
                refine wp_region_lit ?_
                refine ql (.slice A90 ps.length c91) (by kernel_rfl) (by kernel_rfl) ?_
                refine ql (.int .i64 r) (by kernel_rfl) (by kernel_rfl) ?_
                refine ql (.int .i64 a) (by kernel_rfl) (by kernel_rfl) ?_
                refine qc (f := 37) (args := #[.slice A90 ps.length c91, .int .i64 r, .int .i64 a]) (by kernel_rfl) (R_call #[.slice A90 ps.length c91, .int .i64 r, .int .i64 a] Try.func37 (by kernel_rfl) (by kernel_rfl) (by kernel_rfl)) ?_
                by_cases hK_r_a : knB n l r a = true
                · skip
                  refine (r31has A90 c91 ps n l r a _ (Rd.row HS (i := 1) rfl) (fun p hp => rws_rd (A := p.1.1) (c := p.1.2) (l := p.2) (HS.hasP (i := 2) rfl) hp) hrm (by omega)).mono ?_
                  rintro e W207 ⟨rfl, H_⟩
                  rw [hK_r_a]
                  refine ⟨_, rfl, ?_⟩
                  replace HS : St W (owns []) W207 [many (knE Try.prog 83 3 3 105 98 113 110 k86 n x87), row A90 ps.length c91 (cp ps) 22 1, many (ps.map (rwE 3)), row A1 L1.length c1 (ci .i64 L1) 3 1, row A2 L2.length c2 (ci .i64 L2) 3 1] := HS.join (F := []) (G := []) H_
                  clear H_
                  refine wpList_nil ?_
                  refine x_then ?_
                  refine wp_cond_true (by kernel_rfl) ?_
                  refine wp_region_lit ?_
                  refine ql (.slice A2 L2.length c2) (by kernel_rfl) (by kernel_rfl) ?_
                  refine ql (.int .i64 r) (by kernel_rfl) (by kernel_rfl) ?_
                  refine kl HS 1 [.int .i64 r] 3 1 (by kernel_rfl) (by kernel_rfl) rfl (by decide) ?_
                  intro g208 W209 H_
                  replace HS : St W (owns []) W209 [row (some ⟨g208, 0, none⟩) 1 1 (ci .i64 ([r])) 3 1, many (knE Try.prog 83 3 3 105 98 113 110 k86 n x87), row A90 ps.length c91 (cp ps) 22 1, many (ps.map (rwE 3)), row A1 L1.length c1 (ci .i64 L1) 3 1, row A2 L2.length c2 (ci .i64 L2) 3 1] := H_.cast_ (by kernel_rfl)
                  clear H_
                  obtain ⟨xs213, xs213_⟩ : ∃ z_ : List Int, z_ = L2 ++ ([r]) := ⟨_, rfl⟩
                  have xs213l : xs213.length = L2.length + 1 := by rw [xs213_, List.length_append] <;> (try simp only [List.length_cons, List.length_nil]) <;> omega
                  refine ka1 HS 5 rfl (Src.of_row HS (i := 0) rfl ci_one) [.int .i64 0] 8 xs213.length (ci .i64 xs213) (by omega) (by rw [xs213_, ci_app]) (by kernel_rfl) (by kernel_rfl) (by kernel_rfl) Try.underlying22 (by kernel_rfl) (by kernel_rfl) (by kernel_rfl) (by kernel_rfl) (by decide) (by omega) (by omega) ?_
                  intro A210 c211 W212 H_
                  replace HS : St W (owns []) W212 [row (some ⟨g208, 0, none⟩) 1 1 (ci .i64 ([r])) 3 1, many (knE Try.prog 83 3 3 105 98 113 110 k86 n x87), row A90 ps.length c91 (cp ps) 22 1, many (ps.map (rwE 3)), row A1 L1.length c1 (ci .i64 L1) 3 1, row A210 xs213.length c211 (ci .i64 xs213) 3 1] := H_
                  clear H_
                  refine ql (.slice A210 xs213.length c211) (by kernel_rfl) (by kernel_rfl) ?_
                  refine wpList_nil ?_
                  refine x_inb ?_
                  refine x_then ?_
                  refine wp_region_lit ?_
                  refine ql (.int .i64 r) (by kernel_rfl) (by kernel_rfl) ?_
                  refine ql (.int .i64 (r + 1)) (by kernel_rfl) (R_int (by kernel_rfl) (w64 (by omega))) ?_
                  refine ql (.int .i64 (r + 1)) (by kernel_rfl) (by kernel_rfl) ?_
                  refine wpList_nil ?_
                  replace HS := HS.drop1
                  refine x_then ?_
                  exact ⟨(n - (r + 1)).toNat, by omega, (fun k_ : Nat => List.getD ((.int .i64 n) :: (.slice Al l.length cl) :: (.slice Am m.length cm) :: (.int .i64 a) :: (.int .i64 b) :: undef :: undef :: undef :: undef :: undef :: ((u93 10)) :: (.pointer (some ⟨k86, 0, none⟩)) :: (.slice A90 ps.length c91) :: (.slice A1 L1.length c1) :: (.slice A210 xs213.length c211) :: (.int .i64 (r + 1)) :: (.slice Al l.length cl) :: (.int .i64 (l.length : Int)) :: (.bool false) :: (.bool false) :: (.slice Am m.length cm) :: (.int .i64 (m.length : Int)) :: (.bool false) :: (.bool false) :: (.bool false) :: (.int .i64 n) :: (.bool false) :: (.bool false) :: undef :: undef :: (.bool false) :: (.bool false) :: undef :: (.int .i64 n) :: (.slice Al l.length cl) :: (.pointer (some ⟨k86, 0, none⟩)) :: (.int .i64 n) :: (.slice Al l.length cl) :: (.slice A90 ps.length c91) :: ((u93 39)) :: ((u93 40)) :: ((u93 41)) :: ((u93 42)) :: ((u93 43)) :: ((u93 44)) :: ((u93 45)) :: ((u93 46)) :: ((u93 47)) :: ((u93 48)) :: ((u93 49)) :: ((u93 50)) :: ((u93 51)) :: ((u93 52)) :: ((u93 53)) :: ((u93 54)) :: ((u93 55)) :: ((u93 56)) :: ((u93 57)) :: ((u93 58)) :: ((u93 59)) :: ((u93 60)) :: ((u93 61)) :: ((u93 62)) :: ((u93 63)) :: ((u93 64)) :: ((u93 65)) :: ((u93 66)) :: ((u93 67)) :: ((u93 68)) :: ((u93 69)) :: ((u93 70)) :: ((u93 71)) :: ((u93 72)) :: ((u93 73)) :: ((u93 74)) :: ((u93 75)) :: ((u93 76)) :: ((u93 77)) :: ((u93 78)) :: ((u93 79)) :: ((u93 80)) :: ((u93 81)) :: ((u93 82)) :: ((u93 83)) :: ((u93 84)) :: ((u93 85)) :: ((u93 86)) :: ((u93 87)) :: ((u93 88)) :: (.slice (some ⟨g183, 0, none⟩) 0 0) :: (.slice (some ⟨g185, 0, none⟩) 0 0) :: (.int .i64 r) :: (.slice A90 ps.length c91) :: (.int .i64 (ps.length : Int)) :: (.bool true) :: (.int .i64 r) :: (.int .i64 (r + 1)) :: (.slice A90 ps.length c91) :: (.int .i64 a) :: (.int .i64 r) :: (.bool false) :: ((J187 101)) :: ((J187 102)) :: ((J187 103)) :: ((J187 104)) :: (.slice A90 ps.length c91) :: (.int .i64 r) :: (.int .i64 a) :: (.bool true) :: (.slice A2 L2.length c2) :: (.int .i64 r) :: (.slice (some ⟨g208, 0, none⟩) 1 1) :: (.slice A210 xs213.length c211) :: undef :: undef :: undef :: undef :: undef :: undef :: undef :: undef :: undef :: undef :: undef :: undef :: undef :: undef :: undef :: []) k_ undef), (r + 1), L1, xs213, A1, c1, A210, c211, congrArg Fr (by kernel_rfl), rfl, by omega, by omega, (by rw [hqsubs, subs_f r0 (Bool.eq_false_iff.2 hK_a_r)]), (by rw [xs213_, hqsups, sups_t r0 hK_r_a]), HS⟩
                · skip
                  refine (r31has A90 c91 ps n l r a _ (Rd.row HS (i := 1) rfl) (fun p hp => rws_rd (A := p.1.1) (c := p.1.2) (l := p.2) (HS.hasP (i := 2) rfl) hp) hrm (by omega)).mono ?_
                  rintro e W214 ⟨rfl, H_⟩
                  rw [Bool.eq_false_iff.2 hK_r_a]
                  refine ⟨_, rfl, ?_⟩
                  replace HS : St W (owns []) W214 [many (knE Try.prog 83 3 3 105 98 113 110 k86 n x87), row A90 ps.length c91 (cp ps) 22 1, many (ps.map (rwE 3)), row A1 L1.length c1 (ci .i64 L1) 3 1, row A2 L2.length c2 (ci .i64 L2) 3 1] := HS.join (F := []) (G := []) H_
                  clear H_
                  refine wpList_nil ?_
                  refine x_then ?_
                  refine wp_cond_false (by kernel_rfl) ?_
                  refine wp_skip ?_
                  refine x_inb ?_
                  refine x_then ?_
                  refine wp_region_lit ?_
                  refine ql (.int .i64 r) (by kernel_rfl) (by kernel_rfl) ?_
                  refine ql (.int .i64 (r + 1)) (by kernel_rfl) (R_int (by kernel_rfl) (w64 (by omega))) ?_
                  refine ql (.int .i64 (r + 1)) (by kernel_rfl) (by kernel_rfl) ?_
                  refine wpList_nil ?_
                  refine x_then ?_
                  exact ⟨(n - (r + 1)).toNat, by omega, (fun k_ : Nat => List.getD ((.int .i64 n) :: (.slice Al l.length cl) :: (.slice Am m.length cm) :: (.int .i64 a) :: (.int .i64 b) :: undef :: undef :: undef :: undef :: undef :: ((u93 10)) :: (.pointer (some ⟨k86, 0, none⟩)) :: (.slice A90 ps.length c91) :: (.slice A1 L1.length c1) :: (.slice A2 L2.length c2) :: (.int .i64 (r + 1)) :: (.slice Al l.length cl) :: (.int .i64 (l.length : Int)) :: (.bool false) :: (.bool false) :: (.slice Am m.length cm) :: (.int .i64 (m.length : Int)) :: (.bool false) :: (.bool false) :: (.bool false) :: (.int .i64 n) :: (.bool false) :: (.bool false) :: undef :: undef :: (.bool false) :: (.bool false) :: undef :: (.int .i64 n) :: (.slice Al l.length cl) :: (.pointer (some ⟨k86, 0, none⟩)) :: (.int .i64 n) :: (.slice Al l.length cl) :: (.slice A90 ps.length c91) :: ((u93 39)) :: ((u93 40)) :: ((u93 41)) :: ((u93 42)) :: ((u93 43)) :: ((u93 44)) :: ((u93 45)) :: ((u93 46)) :: ((u93 47)) :: ((u93 48)) :: ((u93 49)) :: ((u93 50)) :: ((u93 51)) :: ((u93 52)) :: ((u93 53)) :: ((u93 54)) :: ((u93 55)) :: ((u93 56)) :: ((u93 57)) :: ((u93 58)) :: ((u93 59)) :: ((u93 60)) :: ((u93 61)) :: ((u93 62)) :: ((u93 63)) :: ((u93 64)) :: ((u93 65)) :: ((u93 66)) :: ((u93 67)) :: ((u93 68)) :: ((u93 69)) :: ((u93 70)) :: ((u93 71)) :: ((u93 72)) :: ((u93 73)) :: ((u93 74)) :: ((u93 75)) :: ((u93 76)) :: ((u93 77)) :: ((u93 78)) :: ((u93 79)) :: ((u93 80)) :: ((u93 81)) :: ((u93 82)) :: ((u93 83)) :: ((u93 84)) :: ((u93 85)) :: ((u93 86)) :: ((u93 87)) :: ((u93 88)) :: (.slice (some ⟨g183, 0, none⟩) 0 0) :: (.slice (some ⟨g185, 0, none⟩) 0 0) :: (.int .i64 r) :: (.slice A90 ps.length c91) :: (.int .i64 (ps.length : Int)) :: (.bool true) :: (.int .i64 r) :: (.int .i64 (r + 1)) :: (.slice A90 ps.length c91) :: (.int .i64 a) :: (.int .i64 r) :: (.bool false) :: ((J187 101)) :: ((J187 102)) :: ((J187 103)) :: ((J187 104)) :: (.slice A90 ps.length c91) :: (.int .i64 r) :: (.int .i64 a) :: (.bool false) :: ((J187 109)) :: ((J187 110)) :: ((J187 111)) :: ((J187 112)) :: undef :: undef :: undef :: undef :: undef :: undef :: undef :: undef :: undef :: undef :: undef :: undef :: undef :: undef :: undef :: []) k_ undef), (r + 1), L1, L2, A1, c1, A2, c2, congrArg Fr (by kernel_rfl), rfl, by omega, by omega, (by rw [hqsubs, subs_f r0 (Bool.eq_false_iff.2 hK_a_r)]), (by rw [hqsups, sups_f r0 (Bool.eq_false_iff.2 hK_r_a)]), HS⟩
            · skip
              refine ql (.bool false) (by kernel_rfl) (R_nbool (p := r < (ps.length : Int)) (by kernel_rfl) (hc190)) ?_
              refine wpList_nil ?_
              refine x_then ?_
              refine wp_cond_false (by kernel_rfl) ?_
              refine wp_exit ?_
              refine x_thenE ?_
              refine x_thenE ?_
              refine x_hit ?_
              refine x_then ?_
              refine wp_seq ?_
              refine wp_region_lit ?_
              refine ql (.pointer (some ⟨k86, 0, none⟩)) (by kernel_rfl) (by kernel_rfl) ?_
              refine ql (.int .i64 a) (by kernel_rfl) (by kernel_rfl) ?_
              refine qc (f := 22) (args := #[.pointer (some ⟨k86, 0, none⟩), .int .i64 a]) (by kernel_rfl) (R_call #[.pointer (some ⟨k86, 0, none⟩), .int .i64 a] Try.func22 (by kernel_rfl) (by kernel_rfl) (by kernel_rfl)) ?_
              have hzsubs := subs_len n l a n
              refine (ksubsP k86 n x87 l a _ (HS.hasP (i := 0) rfl) hok88 (by omega) (by first | omega | decide | (rw [List.length_append]; omega)) (by omega)).mono ?_
              rintro e W217 ⟨A215, c216, rfl, H_⟩
              refine ⟨_, rfl, ?_⟩
              replace HS : St W (owns []) W217 [row A215 ((subsL n l a n).length) c216 (ci .i64 (subsL n l a n)) 3 1, many (knE Try.prog 83 3 3 105 98 113 110 k86 n x87), row A90 ps.length c91 (cp ps) 22 1, many (ps.map (rwE 3)), row A1 L1.length c1 (ci .i64 L1) 3 1, row A2 L2.length c2 (ci .i64 L2) 3 1] := HS.join (F := []) (G := [row A215 ((subsL n l a n).length) c216 (ci .i64 (subsL n l a n)) 3 1]) H_
              clear H_
              refine ql (.slice A1 L1.length c1) (by kernel_rfl) (by kernel_rfl) ?_
              refine qc (f := 25) (args := #[.slice A215 ((subsL n l a n).length) c216, .slice A1 L1.length c1]) (by kernel_rfl) (R_call #[.slice A215 ((subsL n l a n).length) c216, .slice A1 L1.length c1] Try.func25 (by kernel_rfl) (by kernel_rfl) (by kernel_rfl)) ?_
              have hssubs : (subsL n l a n) = L1 := by rw [hqsubs, show r = n by omega]
              refine (r1same A215 A1 c216 c1 (subsL n l a n) L1 _ (Rd.row HS (i := 0) rfl) (by omega) (Rd.row HS (i := 4) rfl) (by rw [← hssubs]; omega)).mono ?_
              rintro e W218 ⟨rfl, H_⟩
              rw [decide_eq_true hssubs]
              refine ⟨_, rfl, ?_⟩
              replace HS : St W (owns []) W218 [row A215 ((subsL n l a n).length) c216 (ci .i64 (subsL n l a n)) 3 1, many (knE Try.prog 83 3 3 105 98 113 110 k86 n x87), row A90 ps.length c91 (cp ps) 22 1, many (ps.map (rwE 3)), row A1 L1.length c1 (ci .i64 L1) 3 1, row A2 L2.length c2 (ci .i64 L2) 3 1] := HS.join (F := []) (G := []) H_
              clear H_
              refine ql (.bool true) (by kernel_rfl) (by kernel_rfl) ?_
              refine ql (.pointer (some ⟨k86, 0, none⟩)) (by kernel_rfl) (by kernel_rfl) ?_
              refine ql (.int .i64 a) (by kernel_rfl) (by kernel_rfl) ?_
              refine qc (f := 23) (args := #[.pointer (some ⟨k86, 0, none⟩), .int .i64 a]) (by kernel_rfl) (R_call #[.pointer (some ⟨k86, 0, none⟩), .int .i64 a] Try.func23 (by kernel_rfl) (by kernel_rfl) (by kernel_rfl)) ?_
              have hzsups := sups_len n l a n
              refine (ksupsP k86 n x87 l a _ (HS.hasP (i := 1) rfl) hok88 (by omega) (by first | omega | decide | (rw [List.length_append]; omega)) (by omega)).mono ?_
              rintro e W221 ⟨A219, c220, rfl, H_⟩
              refine ⟨_, rfl, ?_⟩
              replace HS : St W (owns []) W221 [row A219 ((supsL n l a n).length) c220 (ci .i64 (supsL n l a n)) 3 1, row A215 ((subsL n l a n).length) c216 (ci .i64 (subsL n l a n)) 3 1, many (knE Try.prog 83 3 3 105 98 113 110 k86 n x87), row A90 ps.length c91 (cp ps) 22 1, many (ps.map (rwE 3)), row A1 L1.length c1 (ci .i64 L1) 3 1, row A2 L2.length c2 (ci .i64 L2) 3 1] := HS.join (F := []) (G := [row A219 ((supsL n l a n).length) c220 (ci .i64 (supsL n l a n)) 3 1]) H_
              clear H_
              refine ql (.slice A2 L2.length c2) (by kernel_rfl) (by kernel_rfl) ?_
              refine qc (f := 25) (args := #[.slice A219 ((supsL n l a n).length) c220, .slice A2 L2.length c2]) (by kernel_rfl) (R_call #[.slice A219 ((supsL n l a n).length) c220, .slice A2 L2.length c2] Try.func25 (by kernel_rfl) (by kernel_rfl) (by kernel_rfl)) ?_
              have hssups : (supsL n l a n) = L2 := by rw [hqsups, show r = n by omega]
              refine (r1same A219 A2 c220 c2 (supsL n l a n) L2 _ (Rd.row HS (i := 0) rfl) (by omega) (Rd.row HS (i := 6) rfl) (by rw [← hssups]; omega)).mono ?_
              rintro e W222 ⟨rfl, H_⟩
              rw [decide_eq_true hssups]
              refine ⟨_, rfl, ?_⟩
              replace HS : St W (owns []) W222 [row A219 ((supsL n l a n).length) c220 (ci .i64 (supsL n l a n)) 3 1, row A215 ((subsL n l a n).length) c216 (ci .i64 (subsL n l a n)) 3 1, many (knE Try.prog 83 3 3 105 98 113 110 k86 n x87), row A90 ps.length c91 (cp ps) 22 1, many (ps.map (rwE 3)), row A1 L1.length c1 (ci .i64 L1) 3 1, row A2 L2.length c2 (ci .i64 L2) 3 1] := HS.join (F := []) (G := []) H_
              clear H_
              refine ql (.bool true) (by kernel_rfl) (by kernel_rfl) ?_
              refine ql (.bool true) (by kernel_rfl) (by kernel_rfl) ?_
              refine qc (f := 18) (args := #[]) (by kernel_rfl) (R_call #[] Try.func18 (by kernel_rfl) (by kernel_rfl) (by kernel_rfl)) ?_
              refine (kawake _).mono ?_
              rintro e W223 ⟨rfl, H_⟩
              refine ⟨_, rfl, ?_⟩
              replace HS : St W (owns []) W223 [row A219 ((supsL n l a n).length) c220 (ci .i64 (supsL n l a n)) 3 1, row A215 ((subsL n l a n).length) c216 (ci .i64 (subsL n l a n)) 3 1, many (knE Try.prog 83 3 3 105 98 113 110 k86 n x87), row A90 ps.length c91 (cp ps) 22 1, many (ps.map (rwE 3)), row A1 L1.length c1 (ci .i64 L1) 3 1, row A2 L2.length c2 (ci .i64 L2) 3 1] := HS.join (F := []) (G := []) H_
              clear H_
              refine ql (.bool true) (by kernel_rfl) (by kernel_rfl) ?_
              refine ql (.bool true) (by kernel_rfl) (by kernel_rfl) ?_
              refine wpList_nil ?_
              refine x_then ?_
              refine wp_ret ?_
              refine ret_ (.bool true) (by kernel_rfl) ?_
              replace HS := HS.drop1
              replace HS := HS.drop1
              replace HS := HS.drop1
              replace HS := HS.drop1
              replace HS := HS.drop1
              replace HS := HS.drop1
              replace HS := HS.drop1
              exact ⟨rfl, HS⟩


end Go.Proofs.Ytdiodmdohkjafaa.GDeclTells
