/- Written for this claim by gp.py, a program of this session's, over the kit's print. Lean checks it. -/
import Derived.Test.YtdiodmdohkjafaaGDeclTellsx0
import Derived.Test.YtdiodmdohkjafaaGDeclTellshx
import Derived.Test.YtdiodmdohkjafaaGDeclTellshspDeclTellsa
import Derived.Test.YtdiodmdohkjafaaGDeclTellshspDeclTellsb
import Derived.WalkKit
import Derived.StillTailTactics
import Derived.Deep.LoopGhost
import Derived.KernelRfl
import Derived.Deep.OwnRows
import Derived.Laws.OwnMore
import Derived.Laws.MakeOwn
import Derived.Maps.AppendAt
import Derived.OrdersHeld
import Derived.Lib.TrailingZeros
import Derived.Laws.Bits64b
import Derived.Laws.BitsLemmas
import Derived.Laws.Entries
import Derived.RangeFuncWrites
import Derived.RangeFuncLeaves
import Derived.RangeFuncCalls
import Derived.Shelf.Abstract
import Derived.Laws.CopyRow
import Derived.Lib.Overlaps
import Derived.Lib.AppendZerosOnto
import Derived.Lib.SliceRun
import Derived.Laws.IdiomCopy
import Derived.ArgAppend
import Derived.Conc.EntryLaws
import Derived.Maps.OwnSet
import Derived.Maps.Keyed
import Derived.Maps.Views
import Derived.Laws.StructEq
import Derived.ChangeKeysEq
namespace Go.Proofs.Ytdiodmdohkjafaa.GDeclTells
open Go.RowKit Go.Proofs.YtdiodmdohkjafaaW.PrintWords Go.Proofs.YtdiodmdohkjafaaW.PrintLast Go.Proofs.YtdiodmdohkjafaaW.PrintMore
attribute [local go_sem] max2_int min2_int max_two min_two max_three min_three max_four min_four   -- for this text's walks alone
set_option linter.unusedVariables false
set_option linter.unusedSimpArgs false

--import Derived.WalkKit
--import Derived.StillTailTactics
--import Derived.Deep.LoopGhost
--import Derived.KernelRfl
--import Derived.Deep.OwnRows
--import Derived.Laws.OwnMore
--import Derived.Laws.MakeOwn
--import Derived.Maps.AppendAt
--import Derived.OrdersHeld
--import Derived.Lib.TrailingZeros
--import Derived.Laws.Bits64b
--import Derived.Laws.BitsLemmas
--import Derived.Laws.Entries
--import Derived.RangeFuncWrites
--import Derived.RangeFuncLeaves
--import Derived.RangeFuncCalls
--import Derived.Shelf.Abstract
--import Derived.Laws.CopyRow
--import Derived.Lib.Overlaps
--import Derived.Lib.AppendZerosOnto
--import Derived.Lib.SliceRun
--import Derived.Laws.IdiomCopy
--import Derived.ArgAppend
--import Derived.Conc.EntryLaws
--import Derived.Maps.OwnSet
--import Derived.Maps.Keyed
--import Derived.Maps.Views
--import Derived.Laws.StructEq
--import Derived.ChangeKeysEq
attribute [local irreducible] wpStill wpList Code.wp TA
open Go.Shelf
set_option maxRecDepth 100000 in
set_option maxHeartbeats 1000000 in
theorem r31of (n : Int) (Al : Option Addr) (cl : Nat) (l : List (Int × Int)) (W : World) (hra : Rd W Al (cf prC l)) (hll : l.length ≤ 400) (h0 : 0 ≤ n) (hn : n ≤ 12) : Calls Try.prog 35 #[.int .i64 n, .slice Al l.length cl] W fun e W' => ∃ A' c' ps, e = .returned (.slice A' ps.length c') ∧ St W (owns []) W' [row A' ps.length c' (cp ps) 22 1, many (ps.map (rwE 3))] ∧ RM n l ps := by
  have HS : St W (owns []) W [] := St.start W _
  refine calls_enter ((.int .i64 n) :: (.slice Al l.length cl) :: undef :: undef :: undef :: undef :: undef :: undef :: undef :: undef :: undef :: undef :: undef :: undef :: undef :: undef :: undef :: undef :: undef :: undef :: undef :: undef :: undef :: undef :: undef :: undef :: undef :: undef :: undef :: undef :: undef :: undef :: undef :: undef :: undef :: undef :: undef :: undef :: undef :: undef :: undef :: undef :: undef :: undef :: undef :: undef :: undef :: undef :: undef :: undef :: undef :: undef :: undef :: undef :: undef :: undef :: undef :: undef :: undef :: undef :: undef :: undef :: undef :: undef :: undef :: undef :: undef :: undef :: undef :: undef :: undef :: undef :: undef :: undef :: undef :: undef :: undef :: undef :: undef :: undef :: undef :: undef :: undef :: undef :: undef :: undef :: undef :: undef :: undef :: undef :: undef :: undef :: undef :: undef :: undef :: undef :: undef :: undef :: undef :: undef :: undef :: undef :: undef :: undef :: undef :: undef :: undef :: undef :: undef :: undef :: undef :: undef :: undef :: undef :: undef :: undef :: undef :: undef :: undef :: undef :: undef :: undef :: []) Try.func35 rfl (by kernel_rfl) ?_
  refine wp_seq ?_
  refine wp_region_lit ?_
  refine ql (.slice none 0 0) (by kernel_rfl) (by kernel_rfl) ?_
  refine wpList_nil ?_
  refine x_then ?_
  refine wp_seq ?_
  refine wp_region_lit ?_
  refine kl HS 0 [] 22 1 (by kernel_rfl) (by kernel_rfl) rfl (by decide) ?_
  intro g1 W2 H_
  replace HS : St W (owns []) W2 [row (some ⟨g1, 0, none⟩) 0 0 (cp ([])) 22 1] := H_.cast_ (by kernel_rfl)
  clear H_
  refine ql (.slice (some ⟨g1, 0, none⟩) 0 0) (by kernel_rfl) (by kernel_rfl) ?_
  refine wpList_nil ?_
  refine x_then ?_
  refine wp_seq ?_
  refine wp_seq ?_
  refine wp_region_lit ?_
  refine ql (.int .i64 n) (by kernel_rfl) (by kernel_rfl) ?_
  refine ql (.bool false) (by kernel_rfl) (R_nbool (p := n < (0 : Int)) (by kernel_rfl) (by omega)) ?_
  refine ql (.bool false) (by kernel_rfl) (by kernel_rfl) ?_
  refine ql (.int .i64 n) (by kernel_rfl) (by kernel_rfl) ?_
  refine ql (.bool false) (by kernel_rfl) (R_nbool (p := n > (65536 : Int)) (by kernel_rfl) (by omega)) ?_
  refine ql (.bool false) (by kernel_rfl) (by kernel_rfl) ?_
  refine wpList_nil ?_
  refine x_then ?_
  refine wp_cond_false (by kernel_rfl) ?_
  refine wp_skip ?_
  refine x_then ?_
  refine wp_seq ?_
  refine wp_seq ?_
  refine wp_region_lit ?_
  refine ql (.int .i64 0) (by kernel_rfl) (by kernel_rfl) ?_
  refine wpList_nil ?_
  refine x_then ?_
  refine wp_block ?_
  replace HS : St W (owns []) W2 [many [], row (some ⟨g1, 0, none⟩) 0 0 (cp ([])) 22 1] := HS.nilM
  replace HS : St W (owns []) W2 [many (([] : List Pp).map (rwE 3)), row (some ⟨g1, 0, none⟩) 0 0 (cp ([])) 22 1] := HS
  replace HS : St W (owns []) W2 [row (some ⟨g1, 0, none⟩) 0 0 (cp ([])) 22 1, many (([] : List Pp).map (rwE 3))] := HS.perm (perm_ [1, 0] (by kernel_rfl) rfl)
  refine wp_loop_ghost (fun kq a' w' => ∃ (J3 : Nat → Value) (a : Int) (ps : List Pp) (A5 : Option Addr) (c5 : Nat) , a' = Fr ((.int .i64 n) :: (.slice Al l.length cl) :: undef :: undef :: (.slice none 0 0) :: (.slice A5 ps.length c5) :: (.int .i64 a) :: ((J3 7)) :: ((J3 8)) :: ((J3 9)) :: ((J3 10)) :: undef :: undef :: undef :: undef :: (.slice (some ⟨g1, 0, none⟩) 0 0) :: (.int .i64 n) :: (.bool false) :: (.bool false) :: (.int .i64 n) :: (.bool false) :: (.bool false) :: undef :: ((J3 23)) :: ((J3 24)) :: ((J3 25)) :: ((J3 26)) :: ((J3 27)) :: ((J3 28)) :: ((J3 29)) :: ((J3 30)) :: ((J3 31)) :: ((J3 32)) :: ((J3 33)) :: ((J3 34)) :: ((J3 35)) :: ((J3 36)) :: ((J3 37)) :: ((J3 38)) :: ((J3 39)) :: ((J3 40)) :: ((J3 41)) :: ((J3 42)) :: ((J3 43)) :: ((J3 44)) :: ((J3 45)) :: ((J3 46)) :: ((J3 47)) :: ((J3 48)) :: ((J3 49)) :: ((J3 50)) :: ((J3 51)) :: ((J3 52)) :: ((J3 53)) :: ((J3 54)) :: ((J3 55)) :: ((J3 56)) :: ((J3 57)) :: ((J3 58)) :: ((J3 59)) :: ((J3 60)) :: ((J3 61)) :: ((J3 62)) :: ((J3 63)) :: ((J3 64)) :: ((J3 65)) :: ((J3 66)) :: ((J3 67)) :: ((J3 68)) :: ((J3 69)) :: ((J3 70)) :: undef :: undef :: undef :: undef :: undef :: undef :: undef :: undef :: undef :: undef :: undef :: undef :: undef :: undef :: undef :: undef :: undef :: undef :: undef :: undef :: undef :: undef :: undef :: undef :: undef :: undef :: undef :: undef :: undef :: undef :: undef :: undef :: undef :: undef :: undef :: undef :: undef :: undef :: undef :: undef :: undef :: undef :: undef :: undef :: undef :: undef :: undef :: undef :: undef :: undef :: undef :: []) ∧ kq = ((n - a).toNat) ∧ (0 ≤ a) ∧ (a ≤ n) ∧ (ps.map (·.2) = (rgI a).map (irow n l)) ∧ St W (owns []) w' [row A5 ps.length c5 (cp ps) 22 1, many (ps.map (rwE 3))]) ((n - (0 : Int)).toNat) ⟨(fun k_ : Nat => List.getD ((.int .i64 n) :: (.slice Al l.length cl) :: undef :: undef :: (.slice none 0 0) :: (.slice (some ⟨g1, 0, none⟩) 0 0) :: (.int .i64 0) :: undef :: undef :: undef :: undef :: undef :: undef :: undef :: undef :: (.slice (some ⟨g1, 0, none⟩) 0 0) :: (.int .i64 n) :: (.bool false) :: (.bool false) :: (.int .i64 n) :: (.bool false) :: (.bool false) :: undef :: undef :: undef :: undef :: undef :: undef :: undef :: undef :: undef :: undef :: undef :: undef :: undef :: undef :: undef :: undef :: undef :: undef :: undef :: undef :: undef :: undef :: undef :: undef :: undef :: undef :: undef :: undef :: undef :: undef :: undef :: undef :: undef :: undef :: undef :: undef :: undef :: undef :: undef :: undef :: undef :: undef :: undef :: undef :: undef :: undef :: undef :: undef :: undef :: undef :: undef :: undef :: undef :: undef :: undef :: undef :: undef :: undef :: undef :: undef :: undef :: undef :: undef :: undef :: undef :: undef :: undef :: undef :: undef :: undef :: undef :: undef :: undef :: undef :: undef :: undef :: undef :: undef :: undef :: undef :: undef :: undef :: undef :: undef :: undef :: undef :: undef :: undef :: undef :: undef :: undef :: undef :: undef :: undef :: undef :: undef :: undef :: undef :: undef :: undef :: []) k_ undef), (0 : Int), [], some ⟨g1, 0, none⟩, 0, congrArg Fr (by kernel_rfl), rfl, by omega, by omega, rfl, HS⟩ ?_
  clear HS
  intro kq4 a' W5 hrel
  obtain ⟨J3, a, ps, A5, c5, rfl, hk, a0, a1, hps, HS⟩ := hrel
  have hpl : (ps.length : Int) = a := by have h_ := congrArg List.length hps; rw [List.length_map, List.length_map, rgI_len] at h_; omega
  refine wp_seq ?_
  refine wp_seq ?_
  refine wp_region_lit ?_
  refine ql (.int .i64 a) (by kernel_rfl) (by kernel_rfl) ?_
  refine ql (.int .i64 n) (by kernel_rfl) (by kernel_rfl) ?_
  by_cases hc6 : a < n
  · skip
    refine ql (.bool true) (by kernel_rfl) (R_bool (p := a < n) (by kernel_rfl) (hc6)) ?_
    refine wpList_nil ?_
    refine x_then ?_
    refine wp_cond_true (by kernel_rfl) ?_
    refine wp_skip ?_
    refine x_then ?_
    refine wp_seq ?_
    refine wp_block ?_
    refine wp_seq ?_
    refine wp_region_lit ?_
    refine kl HS 0 [] 3 1 (by kernel_rfl) (by kernel_rfl) rfl (by decide) ?_
    intro g7 W8 H_
    replace HS : St W (owns []) W8 [row (some ⟨g7, 0, none⟩) 0 0 (ci .i64 ([])) 3 1, row A5 ps.length c5 (cp ps) 22 1, many (ps.map (rwE 3))] := H_.cast_ (by kernel_rfl)
    clear H_
    refine ql (.slice (some ⟨g7, 0, none⟩) 0 0) (by kernel_rfl) (by kernel_rfl) ?_
    refine wpList_nil ?_
    refine x_then ?_
    refine wp_seq ?_
    refine wp_seq ?_
    refine wp_region_lit ?_
    refine ql (.int .i64 0) (by kernel_rfl) (by kernel_rfl) ?_
    refine wpList_nil ?_
    refine x_then ?_
    refine wp_block ?_
    replace HS : St W (owns []) W8 [row A5 ps.length c5 (cp ps) 22 1, many (ps.map (rwE 3)), row (some ⟨g7, 0, none⟩) 0 0 (ci .i64 ([])) 3 1] := HS.perm (perm_ [1, 2, 0] (by kernel_rfl) rfl)
    refine wp_loop_ghost (fun kq a' w' => ∃ (J9 : Nat → Value) (b : Int) (xs : List Int) (A7 : Option Addr) (c7 : Nat) , a' = Fr ((.int .i64 n) :: (.slice Al l.length cl) :: undef :: undef :: (.slice none 0 0) :: (.slice A5 ps.length c5) :: (.int .i64 a) :: (.slice A7 xs.length c7) :: (.int .i64 b) :: ((J9 9)) :: ((J9 10)) :: undef :: undef :: undef :: undef :: (.slice (some ⟨g1, 0, none⟩) 0 0) :: (.int .i64 n) :: (.bool false) :: (.bool false) :: (.int .i64 n) :: (.bool false) :: (.bool false) :: undef :: (.int .i64 a) :: (.int .i64 n) :: (.bool true) :: ((J3 26)) :: ((J3 27)) :: (.slice (some ⟨g7, 0, none⟩) 0 0) :: ((J9 29)) :: ((J9 30)) :: ((J9 31)) :: ((J9 32)) :: ((J9 33)) :: ((J9 34)) :: ((J9 35)) :: ((J9 36)) :: ((J9 37)) :: ((J9 38)) :: ((J9 39)) :: ((J9 40)) :: ((J9 41)) :: ((J9 42)) :: ((J9 43)) :: ((J9 44)) :: ((J9 45)) :: ((J9 46)) :: ((J9 47)) :: ((J9 48)) :: ((J9 49)) :: ((J9 50)) :: ((J9 51)) :: ((J9 52)) :: ((J9 53)) :: ((J9 54)) :: ((J9 55)) :: ((J9 56)) :: ((J9 57)) :: ((J9 58)) :: ((J9 59)) :: ((J9 60)) :: ((J9 61)) :: ((J9 62)) :: ((J9 63)) :: ((J9 64)) :: ((J9 65)) :: ((J9 66)) :: ((J3 67)) :: ((J3 68)) :: ((J3 69)) :: ((J3 70)) :: undef :: undef :: undef :: undef :: undef :: undef :: undef :: undef :: undef :: undef :: undef :: undef :: undef :: undef :: undef :: undef :: undef :: undef :: undef :: undef :: undef :: undef :: undef :: undef :: undef :: undef :: undef :: undef :: undef :: undef :: undef :: undef :: undef :: undef :: undef :: undef :: undef :: undef :: undef :: undef :: undef :: undef :: undef :: undef :: undef :: undef :: undef :: undef :: undef :: undef :: undef :: []) ∧ kq = ((n - b).toNat) ∧ (0 ≤ b) ∧ (b ≤ n) ∧ (xs = irP n l a b) ∧ St W (owns []) w' [row A5 ps.length c5 (cp ps) 22 1, many (ps.map (rwE 3)), row A7 xs.length c7 (ci .i64 xs) 3 1]) ((n - (0 : Int)).toNat) ⟨(fun k_ : Nat => List.getD ((.int .i64 n) :: (.slice Al l.length cl) :: undef :: undef :: (.slice none 0 0) :: (.slice A5 ps.length c5) :: (.int .i64 a) :: (.slice (some ⟨g7, 0, none⟩) 0 0) :: (.int .i64 0) :: ((J3 9)) :: ((J3 10)) :: undef :: undef :: undef :: undef :: (.slice (some ⟨g1, 0, none⟩) 0 0) :: (.int .i64 n) :: (.bool false) :: (.bool false) :: (.int .i64 n) :: (.bool false) :: (.bool false) :: undef :: (.int .i64 a) :: (.int .i64 n) :: (.bool true) :: ((J3 26)) :: ((J3 27)) :: (.slice (some ⟨g7, 0, none⟩) 0 0) :: ((J3 29)) :: ((J3 30)) :: ((J3 31)) :: ((J3 32)) :: ((J3 33)) :: ((J3 34)) :: ((J3 35)) :: ((J3 36)) :: ((J3 37)) :: ((J3 38)) :: ((J3 39)) :: ((J3 40)) :: ((J3 41)) :: ((J3 42)) :: ((J3 43)) :: ((J3 44)) :: ((J3 45)) :: ((J3 46)) :: ((J3 47)) :: ((J3 48)) :: ((J3 49)) :: ((J3 50)) :: ((J3 51)) :: ((J3 52)) :: ((J3 53)) :: ((J3 54)) :: ((J3 55)) :: ((J3 56)) :: ((J3 57)) :: ((J3 58)) :: ((J3 59)) :: ((J3 60)) :: ((J3 61)) :: ((J3 62)) :: ((J3 63)) :: ((J3 64)) :: ((J3 65)) :: ((J3 66)) :: ((J3 67)) :: ((J3 68)) :: ((J3 69)) :: ((J3 70)) :: undef :: undef :: undef :: undef :: undef :: undef :: undef :: undef :: undef :: undef :: undef :: undef :: undef :: undef :: undef :: undef :: undef :: undef :: undef :: undef :: undef :: undef :: undef :: undef :: undef :: undef :: undef :: undef :: undef :: undef :: undef :: undef :: undef :: undef :: undef :: undef :: undef :: undef :: undef :: undef :: undef :: undef :: undef :: undef :: undef :: undef :: undef :: undef :: undef :: undef :: undef :: []) k_ undef), (0 : Int), [], some ⟨g7, 0, none⟩, 0, congrArg Fr (by kernel_rfl), rfl, by omega, by omega, rfl, HS⟩ ?_
    clear HS
    intro kq10 a' W11 hrel
    obtain ⟨J9, b, xs, A7, c7, rfl, hk, b0, b1, hxs, HS⟩ := hrel
    have hxl := irP_len n l a b
    rw [← hxs] at hxl
    refine wp_seq ?_
    refine wp_seq ?_
    refine wp_region_lit ?_
    refine ql (.int .i64 b) (by kernel_rfl) (by kernel_rfl) ?_
    refine ql (.int .i64 n) (by kernel_rfl) (by kernel_rfl) ?_
    by_cases hc12 : b < n
    · skip
      refine ql (.bool true) (by kernel_rfl) (R_bool (p := b < n) (by kernel_rfl) (hc12)) ?_
      refine wpList_nil ?_
      refine x_then ?_
      refine wp_cond_true (by kernel_rfl) ?_
      refine wp_skip ?_
      refine x_then ?_
      refine wp_seq ?_
      refine wp_block ?_
      refine wp_seq ?_
      refine wp_region_lit ?_
      refine ql (.int .i64 0) (by kernel_rfl) (by kernel_rfl) ?_
      refine wpList_nil ?_
      refine x_then ?_
      refine wp_seq_cut (fun a' w' => ∃ (u13 : Nat → Value) (q0 : Int) , a' = Fr ((.int .i64 n) :: (.slice Al l.length cl) :: undef :: undef :: (.slice none 0 0) :: (.slice A5 ps.length c5) :: (.int .i64 a) :: (.slice A7 xs.length c7) :: (.int .i64 b) :: (.int .i64 q0) :: ((J9 10)) :: undef :: undef :: undef :: undef :: (.slice (some ⟨g1, 0, none⟩) 0 0) :: (.int .i64 n) :: (.bool false) :: (.bool false) :: (.int .i64 n) :: (.bool false) :: (.bool false) :: undef :: (.int .i64 a) :: (.int .i64 n) :: (.bool true) :: ((J3 26)) :: ((J3 27)) :: (.slice (some ⟨g7, 0, none⟩) 0 0) :: (.int .i64 b) :: (.int .i64 n) :: (.bool true) :: ((J9 32)) :: ((J9 33)) :: ((u13 34)) :: ((u13 35)) :: ((u13 36)) :: ((u13 37)) :: ((u13 38)) :: ((u13 39)) :: ((u13 40)) :: ((J9 41)) :: ((J9 42)) :: ((J9 43)) :: ((J9 44)) :: ((J9 45)) :: ((J9 46)) :: ((J9 47)) :: ((J9 48)) :: ((J9 49)) :: ((J9 50)) :: ((J9 51)) :: ((J9 52)) :: ((J9 53)) :: ((J9 54)) :: ((J9 55)) :: ((J9 56)) :: ((J9 57)) :: ((J9 58)) :: ((J9 59)) :: ((J9 60)) :: ((J9 61)) :: ((J9 62)) :: ((J9 63)) :: ((J9 64)) :: ((J9 65)) :: ((J9 66)) :: ((J3 67)) :: ((J3 68)) :: ((J3 69)) :: ((J3 70)) :: undef :: undef :: undef :: undef :: undef :: undef :: undef :: undef :: undef :: undef :: undef :: undef :: undef :: undef :: undef :: undef :: undef :: undef :: undef :: undef :: undef :: undef :: undef :: undef :: undef :: undef :: undef :: undef :: undef :: undef :: undef :: undef :: undef :: undef :: undef :: undef :: undef :: undef :: undef :: undef :: undef :: undef :: undef :: undef :: undef :: undef :: undef :: undef :: undef :: undef :: undef :: []) ∧ (BsI l a b 0 q0) ∧ (0 ≤ q0 ∧ q0 ≤ 1) ∧ St W (owns []) w' [row A5 ps.length c5 (cp ps) 22 1, many (ps.map (rwE 3)), row A7 xs.length c7 (ci .i64 xs) 3 1]) ?_ ?_
      · skip
        refine wp_seq ?_
        refine wp_region_lit ?_
        refine ql (.int .i64 a) (by kernel_rfl) (by kernel_rfl) ?_
        refine ql (.int .i64 b) (by kernel_rfl) (by kernel_rfl) ?_
        by_cases hc14 : a = b
        · skip
          refine ql (.bool true) (by kernel_rfl) (R_beq (b := (a == b)) (by kernel_rfl) (beq_t (hc14))) ?_
          refine ql (.bool true) (by kernel_rfl) (by kernel_rfl) ?_
          refine qln (by kernel_rfl) ?_
          refine qln (by kernel_rfl) ?_
          refine ql (.bool true) (by kernel_rfl) (by kernel_rfl) ?_
          refine wpList_nil ?_
          refine x_then ?_
          refine wp_cond_true (by kernel_rfl) ?_
          refine wp_region_lit ?_
          refine ql (.int .i64 1) (by kernel_rfl) (by kernel_rfl) ?_
          refine wpList_nil ?_
          refine x_then ?_
          exact ⟨(fun k_ : Nat => List.getD ((.int .i64 n) :: (.slice Al l.length cl) :: undef :: undef :: (.slice none 0 0) :: (.slice A5 ps.length c5) :: (.int .i64 a) :: (.slice A7 xs.length c7) :: (.int .i64 b) :: (.int .i64 1) :: ((J9 10)) :: undef :: undef :: undef :: undef :: (.slice (some ⟨g1, 0, none⟩) 0 0) :: (.int .i64 n) :: (.bool false) :: (.bool false) :: (.int .i64 n) :: (.bool false) :: (.bool false) :: undef :: (.int .i64 a) :: (.int .i64 n) :: (.bool true) :: ((J3 26)) :: ((J3 27)) :: (.slice (some ⟨g7, 0, none⟩) 0 0) :: (.int .i64 b) :: (.int .i64 n) :: (.bool true) :: ((J9 32)) :: ((J9 33)) :: (.int .i64 a) :: (.int .i64 b) :: (.bool true) :: (.bool true) :: undef :: undef :: (.bool true) :: ((J9 41)) :: ((J9 42)) :: ((J9 43)) :: ((J9 44)) :: ((J9 45)) :: ((J9 46)) :: ((J9 47)) :: ((J9 48)) :: ((J9 49)) :: ((J9 50)) :: ((J9 51)) :: ((J9 52)) :: ((J9 53)) :: ((J9 54)) :: ((J9 55)) :: ((J9 56)) :: ((J9 57)) :: ((J9 58)) :: ((J9 59)) :: ((J9 60)) :: ((J9 61)) :: ((J9 62)) :: ((J9 63)) :: ((J9 64)) :: ((J9 65)) :: ((J9 66)) :: ((J3 67)) :: ((J3 68)) :: ((J3 69)) :: ((J3 70)) :: undef :: undef :: undef :: undef :: undef :: undef :: undef :: undef :: undef :: undef :: undef :: undef :: undef :: undef :: undef :: undef :: undef :: undef :: undef :: undef :: undef :: undef :: undef :: undef :: undef :: undef :: undef :: undef :: undef :: undef :: undef :: undef :: undef :: undef :: undef :: undef :: undef :: undef :: undef :: undef :: undef :: undef :: undef :: undef :: undef :: undef :: undef :: undef :: undef :: undef :: undef :: []) k_ undef), 1, congrArg Fr (by kernel_rfl), (by unfold BsI btp; simp; omega), (by omega), HS⟩
        · skip
          refine ql (.bool false) (by kernel_rfl) (R_beq (b := (a == b)) (by kernel_rfl) (beq_f (hc14))) ?_
          refine ql (.bool false) (by kernel_rfl) (by kernel_rfl) ?_
          refine ql (.int .i64 a) (by kernel_rfl) (by kernel_rfl) ?_
          by_cases hc15 : a = (0 : Int)
          · skip
            refine ql (.bool true) (by kernel_rfl) (R_beq (b := (a == (0 : Int))) (by kernel_rfl) (beq_t (hc15))) ?_
            refine ql (.bool true) (by kernel_rfl) (by kernel_rfl) ?_
            refine wpList_nil ?_
            refine x_then ?_
            refine wp_cond_true (by kernel_rfl) ?_
            refine wp_region_lit ?_
            refine ql (.int .i64 1) (by kernel_rfl) (by kernel_rfl) ?_
            refine wpList_nil ?_
            refine x_then ?_
            exact ⟨(fun k_ : Nat => List.getD ((.int .i64 n) :: (.slice Al l.length cl) :: undef :: undef :: (.slice none 0 0) :: (.slice A5 ps.length c5) :: (.int .i64 a) :: (.slice A7 xs.length c7) :: (.int .i64 b) :: (.int .i64 1) :: ((J9 10)) :: undef :: undef :: undef :: undef :: (.slice (some ⟨g1, 0, none⟩) 0 0) :: (.int .i64 n) :: (.bool false) :: (.bool false) :: (.int .i64 n) :: (.bool false) :: (.bool false) :: undef :: (.int .i64 a) :: (.int .i64 n) :: (.bool true) :: ((J3 26)) :: ((J3 27)) :: (.slice (some ⟨g7, 0, none⟩) 0 0) :: (.int .i64 b) :: (.int .i64 n) :: (.bool true) :: ((J9 32)) :: ((J9 33)) :: (.int .i64 a) :: (.int .i64 b) :: (.bool false) :: (.bool false) :: (.int .i64 a) :: (.bool true) :: (.bool true) :: ((J9 41)) :: ((J9 42)) :: ((J9 43)) :: ((J9 44)) :: ((J9 45)) :: ((J9 46)) :: ((J9 47)) :: ((J9 48)) :: ((J9 49)) :: ((J9 50)) :: ((J9 51)) :: ((J9 52)) :: ((J9 53)) :: ((J9 54)) :: ((J9 55)) :: ((J9 56)) :: ((J9 57)) :: ((J9 58)) :: ((J9 59)) :: ((J9 60)) :: ((J9 61)) :: ((J9 62)) :: ((J9 63)) :: ((J9 64)) :: ((J9 65)) :: ((J9 66)) :: ((J3 67)) :: ((J3 68)) :: ((J3 69)) :: ((J3 70)) :: undef :: undef :: undef :: undef :: undef :: undef :: undef :: undef :: undef :: undef :: undef :: undef :: undef :: undef :: undef :: undef :: undef :: undef :: undef :: undef :: undef :: undef :: undef :: undef :: undef :: undef :: undef :: undef :: undef :: undef :: undef :: undef :: undef :: undef :: undef :: undef :: undef :: undef :: undef :: undef :: undef :: undef :: undef :: undef :: undef :: undef :: undef :: undef :: undef :: undef :: undef :: []) k_ undef), 1, congrArg Fr (by kernel_rfl), (by unfold BsI btp; simp; omega), (by omega), HS⟩
          · skip
            refine ql (.bool false) (by kernel_rfl) (R_beq (b := (a == (0 : Int))) (by kernel_rfl) (beq_f (hc15))) ?_
            refine ql (.bool false) (by kernel_rfl) (by kernel_rfl) ?_
            refine wpList_nil ?_
            refine x_then ?_
            refine wp_cond_false (by kernel_rfl) ?_
            refine wp_skip ?_
            refine x_then ?_
            exact ⟨(fun k_ : Nat => List.getD ((.int .i64 n) :: (.slice Al l.length cl) :: undef :: undef :: (.slice none 0 0) :: (.slice A5 ps.length c5) :: (.int .i64 a) :: (.slice A7 xs.length c7) :: (.int .i64 b) :: (.int .i64 0) :: ((J9 10)) :: undef :: undef :: undef :: undef :: (.slice (some ⟨g1, 0, none⟩) 0 0) :: (.int .i64 n) :: (.bool false) :: (.bool false) :: (.int .i64 n) :: (.bool false) :: (.bool false) :: undef :: (.int .i64 a) :: (.int .i64 n) :: (.bool true) :: ((J3 26)) :: ((J3 27)) :: (.slice (some ⟨g7, 0, none⟩) 0 0) :: (.int .i64 b) :: (.int .i64 n) :: (.bool true) :: ((J9 32)) :: ((J9 33)) :: (.int .i64 a) :: (.int .i64 b) :: (.bool false) :: (.bool false) :: (.int .i64 a) :: (.bool false) :: (.bool false) :: ((J9 41)) :: ((J9 42)) :: ((J9 43)) :: ((J9 44)) :: ((J9 45)) :: ((J9 46)) :: ((J9 47)) :: ((J9 48)) :: ((J9 49)) :: ((J9 50)) :: ((J9 51)) :: ((J9 52)) :: ((J9 53)) :: ((J9 54)) :: ((J9 55)) :: ((J9 56)) :: ((J9 57)) :: ((J9 58)) :: ((J9 59)) :: ((J9 60)) :: ((J9 61)) :: ((J9 62)) :: ((J9 63)) :: ((J9 64)) :: ((J9 65)) :: ((J9 66)) :: ((J3 67)) :: ((J3 68)) :: ((J3 69)) :: ((J3 70)) :: undef :: undef :: undef :: undef :: undef :: undef :: undef :: undef :: undef :: undef :: undef :: undef :: undef :: undef :: undef :: undef :: undef :: undef :: undef :: undef :: undef :: undef :: undef :: undef :: undef :: undef :: undef :: undef :: undef :: undef :: undef :: undef :: undef :: undef :: undef :: undef :: undef :: undef :: undef :: undef :: undef :: undef :: undef :: undef :: undef :: undef :: undef :: undef :: undef :: undef :: undef :: []) k_ undef), 0, congrArg Fr (by kernel_rfl), (by unfold BsI btp; simp; omega), (by omega), HS⟩
      · clear HS
        rintro a' W16 ⟨u13, q0, rfl, hq0, hqr, HS⟩
        refine wp_seq ?_
        refine wp_seq ?_
        refine wp_region_lit ?_
        refine ql (.int .i64 0) (by kernel_rfl) (by kernel_rfl) ?_
        refine wpList_nil ?_
        refine x_then ?_
        refine wp_block ?_
        refine wp_loop_ghost (fun kq a' w' => ∃ (J17 : Nat → Value) (i : Int) (q : Int) , a' = Fr ((.int .i64 n) :: (.slice Al l.length cl) :: undef :: undef :: (.slice none 0 0) :: (.slice A5 ps.length c5) :: (.int .i64 a) :: (.slice A7 xs.length c7) :: (.int .i64 b) :: (.int .i64 q) :: (.int .i64 i) :: undef :: undef :: undef :: undef :: (.slice (some ⟨g1, 0, none⟩) 0 0) :: (.int .i64 n) :: (.bool false) :: (.bool false) :: (.int .i64 n) :: (.bool false) :: (.bool false) :: undef :: (.int .i64 a) :: (.int .i64 n) :: (.bool true) :: ((J3 26)) :: ((J3 27)) :: (.slice (some ⟨g7, 0, none⟩) 0 0) :: (.int .i64 b) :: (.int .i64 n) :: (.bool true) :: ((J9 32)) :: ((J9 33)) :: ((u13 34)) :: ((u13 35)) :: ((u13 36)) :: ((u13 37)) :: ((u13 38)) :: ((u13 39)) :: ((u13 40)) :: ((J17 41)) :: ((J17 42)) :: ((J17 43)) :: ((J17 44)) :: ((J17 45)) :: ((J17 46)) :: ((J17 47)) :: ((J17 48)) :: ((J17 49)) :: ((J17 50)) :: ((J17 51)) :: ((J17 52)) :: ((J17 53)) :: ((J17 54)) :: ((J17 55)) :: ((J17 56)) :: ((J17 57)) :: ((J17 58)) :: ((J17 59)) :: ((J17 60)) :: ((J17 61)) :: ((J17 62)) :: ((J9 63)) :: ((J9 64)) :: ((J9 65)) :: ((J9 66)) :: ((J3 67)) :: ((J3 68)) :: ((J3 69)) :: ((J3 70)) :: undef :: undef :: undef :: undef :: undef :: undef :: undef :: undef :: undef :: undef :: undef :: undef :: undef :: undef :: undef :: undef :: undef :: undef :: undef :: undef :: undef :: undef :: undef :: undef :: undef :: undef :: undef :: undef :: undef :: undef :: undef :: undef :: undef :: undef :: undef :: undef :: undef :: undef :: undef :: undef :: undef :: undef :: undef :: undef :: undef :: undef :: undef :: undef :: undef :: undef :: undef :: []) ∧ kq = (l.length - (i).toNat) ∧ (0 ≤ i) ∧ (i ≤ l.length) ∧ (BsI l a b i q) ∧ (0 ≤ q ∧ q ≤ 1) ∧ St W (owns []) w' [row A5 ps.length c5 (cp ps) 22 1, many (ps.map (rwE 3)), row A7 xs.length c7 (ci .i64 xs) 3 1]) (l.length - ((0 : Int)).toNat) ⟨(fun k_ : Nat => List.getD ((.int .i64 n) :: (.slice Al l.length cl) :: undef :: undef :: (.slice none 0 0) :: (.slice A5 ps.length c5) :: (.int .i64 a) :: (.slice A7 xs.length c7) :: (.int .i64 b) :: (.int .i64 q0) :: (.int .i64 0) :: undef :: undef :: undef :: undef :: (.slice (some ⟨g1, 0, none⟩) 0 0) :: (.int .i64 n) :: (.bool false) :: (.bool false) :: (.int .i64 n) :: (.bool false) :: (.bool false) :: undef :: (.int .i64 a) :: (.int .i64 n) :: (.bool true) :: ((J3 26)) :: ((J3 27)) :: (.slice (some ⟨g7, 0, none⟩) 0 0) :: (.int .i64 b) :: (.int .i64 n) :: (.bool true) :: ((J9 32)) :: ((J9 33)) :: ((u13 34)) :: ((u13 35)) :: ((u13 36)) :: ((u13 37)) :: ((u13 38)) :: ((u13 39)) :: ((u13 40)) :: ((J9 41)) :: ((J9 42)) :: ((J9 43)) :: ((J9 44)) :: ((J9 45)) :: ((J9 46)) :: ((J9 47)) :: ((J9 48)) :: ((J9 49)) :: ((J9 50)) :: ((J9 51)) :: ((J9 52)) :: ((J9 53)) :: ((J9 54)) :: ((J9 55)) :: ((J9 56)) :: ((J9 57)) :: ((J9 58)) :: ((J9 59)) :: ((J9 60)) :: ((J9 61)) :: ((J9 62)) :: ((J9 63)) :: ((J9 64)) :: ((J9 65)) :: ((J9 66)) :: ((J3 67)) :: ((J3 68)) :: ((J3 69)) :: ((J3 70)) :: undef :: undef :: undef :: undef :: undef :: undef :: undef :: undef :: undef :: undef :: undef :: undef :: undef :: undef :: undef :: undef :: undef :: undef :: undef :: undef :: undef :: undef :: undef :: undef :: undef :: undef :: undef :: undef :: undef :: undef :: undef :: undef :: undef :: undef :: undef :: undef :: undef :: undef :: undef :: undef :: undef :: undef :: undef :: undef :: undef :: undef :: undef :: undef :: undef :: undef :: undef :: []) k_ undef), (0 : Int), q0, congrArg Fr (by kernel_rfl), rfl, by omega, by omega, hq0, hqr, HS⟩ ?_
        clear HS
        intro kq18 a' W19 hrel
        obtain ⟨J17, i, q, rfl, hk, i0, i1, hq, hqr2, HS⟩ := hrel
        refine wp_seq ?_
        refine wp_seq ?_
        refine wp_region_lit ?_
        refine ql (.int .i64 i) (by kernel_rfl) (by kernel_rfl) ?_
        refine ql (.slice Al l.length cl) (by kernel_rfl) (by kernel_rfl) ?_
        refine ql (.int .i64 (l.length : Int)) (by kernel_rfl) (by kernel_rfl) ?_
        by_cases hc20 : i < (l.length : Int)
        · skip
          refine ql (.bool true) (by kernel_rfl) (R_bool (p := i < (l.length : Int)) (by kernel_rfl) (hc20)) ?_
          refine wpList_nil ?_
          refine x_then ?_
          refine wp_cond_true (by kernel_rfl) ?_
          refine wp_skip ?_
          refine x_then ?_
          refine wp_seq ?_
          refine wp_block ?_
          refine wp_seq ?_
          refine wp_region_lit ?_
          refine ql (.slice Al l.length cl) (by kernel_rfl) (by kernel_rfl) ?_
          refine ql (.int .i64 i) (by kernel_rfl) (by kernel_rfl) ?_
          obtain ⟨ad21, rfl⟩ := Rd.isSome_ hra (by rw [cf_len (z := 2) (fun _ => rfl)]; omega)
          refine ql (.pointer (some (ad21.add (i.toNat * 2)))) (by kernel_rfl) (R_indexA (k := .i64) (p := ad21) (n := l.length) (c := cl) (i := i) (by kernel_rfl) (by kernel_rfl) Try.underlying34 (by kernel_rfl) (by omega) (by omega)) ?_
          refine ql (.pointer (some (ad21.add (i.toNat * 2)))) (by kernel_rfl) (by kernel_rfl) ?_
          refine ql (.int .i64 ((gx l i).1)) (by kernel_rfl) (R_load (p := ad21.add (i.toNat * 2)) (by kernel_rfl) (by kernel_rfl) (by kernel_rfl) (HS.old0 (Rd.elem0 (f := prC) (fun _ => rfl) hra (gx_eq (by omega) (by omega)) rfl))) ?_
          refine ql (.int .i64 a) (by kernel_rfl) (by kernel_rfl) ?_
          by_cases hc22 : ((gx l i).1) = a
          · skip
            refine ql (.bool true) (by kernel_rfl) (R_beq (b := ((gx l i).1 == a)) (by kernel_rfl) (beq_t (hc22))) ?_
            refine ql (.bool true) (by kernel_rfl) (by kernel_rfl) ?_
            refine ql (.slice (some ad21) l.length cl) (by kernel_rfl) (by kernel_rfl) ?_
            refine ql (.int .i64 i) (by kernel_rfl) (by kernel_rfl) ?_
            refine ql (.pointer (some (ad21.add (i.toNat * 2)))) (by kernel_rfl) (R_indexA (k := .i64) (p := ad21) (n := l.length) (c := cl) (i := i) (by kernel_rfl) (by kernel_rfl) Try.underlying34 (by kernel_rfl) (by omega) (by omega)) ?_
            refine ql (.pointer (some ((ad21.add (i.toNat * 2)).add 1))) (by kernel_rfl) (by kernel_rfl) ?_
            refine ql (.int .i64 ((gx l i).2)) (by kernel_rfl) (R_load (p := (ad21.add (i.toNat * 2)).add 1) (by kernel_rfl) (by kernel_rfl) (by kernel_rfl) (HS.old0 (Rd.elem1 (k := 1) (f := prC) (fun _ => rfl) hra (gx_eq (by omega) (by omega)) rfl))) ?_
            refine ql (.int .i64 b) (by kernel_rfl) (by kernel_rfl) ?_
            by_cases hc23 : ((gx l i).2) = b
            · skip
              refine ql (.bool true) (by kernel_rfl) (R_beq (b := ((gx l i).2 == b)) (by kernel_rfl) (beq_t (hc23))) ?_
              refine ql (.bool true) (by kernel_rfl) (by kernel_rfl) ?_
              refine wpList_nil ?_
              refine x_then ?_
              refine wp_cond_true (by kernel_rfl) ?_
              refine wp_region_lit ?_
              refine ql (.int .i64 1) (by kernel_rfl) (by kernel_rfl) ?_
              refine wpList_nil ?_
              refine x_inb ?_
              refine x_then ?_
              refine wp_region_lit ?_
              refine ql (.int .i64 i) (by kernel_rfl) (by kernel_rfl) ?_
              refine ql (.int .i64 (i + 1)) (by kernel_rfl) (R_int (by kernel_rfl) (w64 (by omega))) ?_
              refine ql (.int .i64 (i + 1)) (by kernel_rfl) (by kernel_rfl) ?_
              refine wpList_nil ?_
              refine x_then ?_
              exact ⟨l.length - ((i + 1)).toNat, by omega, (fun k_ : Nat => List.getD ((.int .i64 n) :: (.slice (some ad21) l.length cl) :: undef :: undef :: (.slice none 0 0) :: (.slice A5 ps.length c5) :: (.int .i64 a) :: (.slice A7 xs.length c7) :: (.int .i64 b) :: (.int .i64 1) :: (.int .i64 (i + 1)) :: undef :: undef :: undef :: undef :: (.slice (some ⟨g1, 0, none⟩) 0 0) :: (.int .i64 n) :: (.bool false) :: (.bool false) :: (.int .i64 n) :: (.bool false) :: (.bool false) :: undef :: (.int .i64 a) :: (.int .i64 n) :: (.bool true) :: ((J3 26)) :: ((J3 27)) :: (.slice (some ⟨g7, 0, none⟩) 0 0) :: (.int .i64 b) :: (.int .i64 n) :: (.bool true) :: ((J9 32)) :: ((J9 33)) :: ((u13 34)) :: ((u13 35)) :: ((u13 36)) :: ((u13 37)) :: ((u13 38)) :: ((u13 39)) :: ((u13 40)) :: (.int .i64 i) :: (.slice (some ad21) l.length cl) :: (.int .i64 (l.length : Int)) :: (.bool true) :: (.int .i64 i) :: (.int .i64 (i + 1)) :: (.slice (some ad21) l.length cl) :: (.int .i64 i) :: (.pointer (some (ad21.add (i.toNat * 2)))) :: (.pointer (some (ad21.add (i.toNat * 2)))) :: (.int .i64 ((gx l i).1)) :: (.int .i64 a) :: (.bool true) :: (.bool true) :: (.slice (some ad21) l.length cl) :: (.int .i64 i) :: (.pointer (some (ad21.add (i.toNat * 2)))) :: (.pointer (some ((ad21.add (i.toNat * 2)).add 1))) :: (.int .i64 ((gx l i).2)) :: (.int .i64 b) :: (.bool true) :: (.bool true) :: ((J9 63)) :: ((J9 64)) :: ((J9 65)) :: ((J9 66)) :: ((J3 67)) :: ((J3 68)) :: ((J3 69)) :: ((J3 70)) :: undef :: undef :: undef :: undef :: undef :: undef :: undef :: undef :: undef :: undef :: undef :: undef :: undef :: undef :: undef :: undef :: undef :: undef :: undef :: undef :: undef :: undef :: undef :: undef :: undef :: undef :: undef :: undef :: undef :: undef :: undef :: undef :: undef :: undef :: undef :: undef :: undef :: undef :: undef :: undef :: undef :: undef :: undef :: undef :: undef :: undef :: undef :: undef :: undef :: undef :: undef :: []) k_ undef), (i + 1), (1 : Int), congrArg Fr (by kernel_rfl), rfl, by omega, by omega, bsI_t i0 (by omega) hc22 hc23, (by omega), HS⟩
            · skip
              refine ql (.bool false) (by kernel_rfl) (R_beq (b := ((gx l i).2 == b)) (by kernel_rfl) (beq_f (hc23))) ?_
              refine ql (.bool false) (by kernel_rfl) (by kernel_rfl) ?_
              refine wpList_nil ?_
              refine x_then ?_
              refine wp_cond_false (by kernel_rfl) ?_
              refine wp_skip ?_
              refine x_inb ?_
              refine x_then ?_
              refine wp_region_lit ?_
              refine ql (.int .i64 i) (by kernel_rfl) (by kernel_rfl) ?_
              refine ql (.int .i64 (i + 1)) (by kernel_rfl) (R_int (by kernel_rfl) (w64 (by omega))) ?_
              refine ql (.int .i64 (i + 1)) (by kernel_rfl) (by kernel_rfl) ?_
              refine wpList_nil ?_
              refine x_then ?_
              exact ⟨l.length - ((i + 1)).toNat, by omega, (fun k_ : Nat => List.getD ((.int .i64 n) :: (.slice (some ad21) l.length cl) :: undef :: undef :: (.slice none 0 0) :: (.slice A5 ps.length c5) :: (.int .i64 a) :: (.slice A7 xs.length c7) :: (.int .i64 b) :: (.int .i64 q) :: (.int .i64 (i + 1)) :: undef :: undef :: undef :: undef :: (.slice (some ⟨g1, 0, none⟩) 0 0) :: (.int .i64 n) :: (.bool false) :: (.bool false) :: (.int .i64 n) :: (.bool false) :: (.bool false) :: undef :: (.int .i64 a) :: (.int .i64 n) :: (.bool true) :: ((J3 26)) :: ((J3 27)) :: (.slice (some ⟨g7, 0, none⟩) 0 0) :: (.int .i64 b) :: (.int .i64 n) :: (.bool true) :: ((J9 32)) :: ((J9 33)) :: ((u13 34)) :: ((u13 35)) :: ((u13 36)) :: ((u13 37)) :: ((u13 38)) :: ((u13 39)) :: ((u13 40)) :: (.int .i64 i) :: (.slice (some ad21) l.length cl) :: (.int .i64 (l.length : Int)) :: (.bool true) :: (.int .i64 i) :: (.int .i64 (i + 1)) :: (.slice (some ad21) l.length cl) :: (.int .i64 i) :: (.pointer (some (ad21.add (i.toNat * 2)))) :: (.pointer (some (ad21.add (i.toNat * 2)))) :: (.int .i64 ((gx l i).1)) :: (.int .i64 a) :: (.bool true) :: (.bool true) :: (.slice (some ad21) l.length cl) :: (.int .i64 i) :: (.pointer (some (ad21.add (i.toNat * 2)))) :: (.pointer (some ((ad21.add (i.toNat * 2)).add 1))) :: (.int .i64 ((gx l i).2)) :: (.int .i64 b) :: (.bool false) :: (.bool false) :: ((J9 63)) :: ((J9 64)) :: ((J9 65)) :: ((J9 66)) :: ((J3 67)) :: ((J3 68)) :: ((J3 69)) :: ((J3 70)) :: undef :: undef :: undef :: undef :: undef :: undef :: undef :: undef :: undef :: undef :: undef :: undef :: undef :: undef :: undef :: undef :: undef :: undef :: undef :: undef :: undef :: undef :: undef :: undef :: undef :: undef :: undef :: undef :: undef :: undef :: undef :: undef :: undef :: undef :: undef :: undef :: undef :: undef :: undef :: undef :: undef :: undef :: undef :: undef :: undef :: undef :: undef :: undef :: undef :: undef :: undef :: []) k_ undef), (i + 1), q, congrArg Fr (by kernel_rfl), rfl, by omega, by omega, bsI_f hq i0 (by omega) (by omega), (by omega), HS⟩
          · skip
            refine ql (.bool false) (by kernel_rfl) (R_beq (b := ((gx l i).1 == a)) (by kernel_rfl) (beq_f (hc22))) ?_
            refine ql (.bool false) (by kernel_rfl) (by kernel_rfl) ?_
            refine qln (by kernel_rfl) ?_
            refine qln (by kernel_rfl) ?_
            refine qln (by kernel_rfl) ?_
            refine qln (by kernel_rfl) ?_
            refine qln (by kernel_rfl) ?_
            refine qln (by kernel_rfl) ?_
            refine qln (by kernel_rfl) ?_
            refine ql (.bool false) (by kernel_rfl) (by kernel_rfl) ?_
            refine wpList_nil ?_
            refine x_then ?_
            refine wp_cond_false (by kernel_rfl) ?_
            refine wp_skip ?_
            refine x_inb ?_
            refine x_then ?_
            refine wp_region_lit ?_
            refine ql (.int .i64 i) (by kernel_rfl) (by kernel_rfl) ?_
            refine ql (.int .i64 (i + 1)) (by kernel_rfl) (R_int (by kernel_rfl) (w64 (by omega))) ?_
            refine ql (.int .i64 (i + 1)) (by kernel_rfl) (by kernel_rfl) ?_
            refine wpList_nil ?_
            refine x_then ?_
            exact ⟨l.length - ((i + 1)).toNat, by omega, (fun k_ : Nat => List.getD ((.int .i64 n) :: (.slice (some ad21) l.length cl) :: undef :: undef :: (.slice none 0 0) :: (.slice A5 ps.length c5) :: (.int .i64 a) :: (.slice A7 xs.length c7) :: (.int .i64 b) :: (.int .i64 q) :: (.int .i64 (i + 1)) :: undef :: undef :: undef :: undef :: (.slice (some ⟨g1, 0, none⟩) 0 0) :: (.int .i64 n) :: (.bool false) :: (.bool false) :: (.int .i64 n) :: (.bool false) :: (.bool false) :: undef :: (.int .i64 a) :: (.int .i64 n) :: (.bool true) :: ((J3 26)) :: ((J3 27)) :: (.slice (some ⟨g7, 0, none⟩) 0 0) :: (.int .i64 b) :: (.int .i64 n) :: (.bool true) :: ((J9 32)) :: ((J9 33)) :: ((u13 34)) :: ((u13 35)) :: ((u13 36)) :: ((u13 37)) :: ((u13 38)) :: ((u13 39)) :: ((u13 40)) :: (.int .i64 i) :: (.slice (some ad21) l.length cl) :: (.int .i64 (l.length : Int)) :: (.bool true) :: (.int .i64 i) :: (.int .i64 (i + 1)) :: (.slice (some ad21) l.length cl) :: (.int .i64 i) :: (.pointer (some (ad21.add (i.toNat * 2)))) :: (.pointer (some (ad21.add (i.toNat * 2)))) :: (.int .i64 ((gx l i).1)) :: (.int .i64 a) :: (.bool false) :: (.bool false) :: undef :: undef :: undef :: undef :: undef :: undef :: undef :: (.bool false) :: ((J9 63)) :: ((J9 64)) :: ((J9 65)) :: ((J9 66)) :: ((J3 67)) :: ((J3 68)) :: ((J3 69)) :: ((J3 70)) :: undef :: undef :: undef :: undef :: undef :: undef :: undef :: undef :: undef :: undef :: undef :: undef :: undef :: undef :: undef :: undef :: undef :: undef :: undef :: undef :: undef :: undef :: undef :: undef :: undef :: undef :: undef :: undef :: undef :: undef :: undef :: undef :: undef :: undef :: undef :: undef :: undef :: undef :: undef :: undef :: undef :: undef :: undef :: undef :: undef :: undef :: undef :: undef :: undef :: undef :: undef :: []) k_ undef), (i + 1), q, congrArg Fr (by kernel_rfl), rfl, by omega, by omega, bsI_f hq i0 (by omega) (by omega), (by omega), HS⟩
        · skip
          refine ql (.bool false) (by kernel_rfl) (R_nbool (p := i < (l.length : Int)) (by kernel_rfl) (hc20)) ?_
          refine wpList_nil ?_
          refine x_then ?_
          refine wp_cond_false (by kernel_rfl) ?_
          refine wp_exit ?_
          refine x_thenE ?_
          refine x_thenE ?_
          refine x_hit ?_
          refine x_then ?_
          refine wp_region_lit ?_
          refine ql (.slice A7 xs.length c7) (by kernel_rfl) (by kernel_rfl) ?_
          refine ql (.int .i64 q) (by kernel_rfl) (by kernel_rfl) ?_
          refine kl HS 1 [.int .i64 q] 3 1 (by kernel_rfl) (by kernel_rfl) rfl (by decide) ?_
          intro g24 W25 H_
          replace HS : St W (owns []) W25 [row (some ⟨g24, 0, none⟩) 1 1 (ci .i64 ([q])) 3 1, row A5 ps.length c5 (cp ps) 22 1, many (ps.map (rwE 3)), row A7 xs.length c7 (ci .i64 xs) 3 1] := H_.cast_ (by kernel_rfl)
          clear H_
          obtain ⟨xs29, xs29_⟩ : ∃ z_ : List Int, z_ = xs ++ ([q]) := ⟨_, rfl⟩
          have xs29l : xs29.length = xs.length + 1 := by rw [xs29_, List.length_append] <;> (try simp only [List.length_cons, List.length_nil]) <;> omega
          refine ka1 HS 3 rfl (Src.of_row HS (i := 0) rfl ci_one) [.int .i64 0] 8 xs29.length (ci .i64 xs29) (by omega) (by rw [xs29_, ci_app]) (by kernel_rfl) (by kernel_rfl) (by kernel_rfl) Try.underlying22 (by kernel_rfl) (by kernel_rfl) (by kernel_rfl) (by kernel_rfl) (by decide) (by omega) (by omega) ?_
          intro A26 c27 W28 H_
          replace HS : St W (owns []) W28 [row (some ⟨g24, 0, none⟩) 1 1 (ci .i64 ([q])) 3 1, row A5 ps.length c5 (cp ps) 22 1, many (ps.map (rwE 3)), row A26 xs29.length c27 (ci .i64 xs29) 3 1] := H_
          clear H_
          refine ql (.slice A26 xs29.length c27) (by kernel_rfl) (by kernel_rfl) ?_
          refine wpList_nil ?_
          refine x_inb ?_
          refine x_then ?_
          refine wp_region_lit ?_
          refine ql (.int .i64 b) (by kernel_rfl) (by kernel_rfl) ?_
          refine ql (.int .i64 (b + 1)) (by kernel_rfl) (R_int (by kernel_rfl) (w64 (by omega))) ?_
          refine ql (.int .i64 (b + 1)) (by kernel_rfl) (by kernel_rfl) ?_
          refine wpList_nil ?_
          replace HS := HS.drop1
          refine x_then ?_
          exact ⟨(n - (b + 1)).toNat, by omega, (fun k_ : Nat => List.getD ((.int .i64 n) :: (.slice Al l.length cl) :: undef :: undef :: (.slice none 0 0) :: (.slice A5 ps.length c5) :: (.int .i64 a) :: (.slice A26 xs29.length c27) :: (.int .i64 (b + 1)) :: (.int .i64 q) :: (.int .i64 i) :: undef :: undef :: undef :: undef :: (.slice (some ⟨g1, 0, none⟩) 0 0) :: (.int .i64 n) :: (.bool false) :: (.bool false) :: (.int .i64 n) :: (.bool false) :: (.bool false) :: undef :: (.int .i64 a) :: (.int .i64 n) :: (.bool true) :: ((J3 26)) :: ((J3 27)) :: (.slice (some ⟨g7, 0, none⟩) 0 0) :: (.int .i64 b) :: (.int .i64 n) :: (.bool true) :: (.int .i64 b) :: (.int .i64 (b + 1)) :: ((u13 34)) :: ((u13 35)) :: ((u13 36)) :: ((u13 37)) :: ((u13 38)) :: ((u13 39)) :: ((u13 40)) :: (.int .i64 i) :: (.slice Al l.length cl) :: (.int .i64 (l.length : Int)) :: (.bool false) :: ((J17 45)) :: ((J17 46)) :: ((J17 47)) :: ((J17 48)) :: ((J17 49)) :: ((J17 50)) :: ((J17 51)) :: ((J17 52)) :: ((J17 53)) :: ((J17 54)) :: ((J17 55)) :: ((J17 56)) :: ((J17 57)) :: ((J17 58)) :: ((J17 59)) :: ((J17 60)) :: ((J17 61)) :: ((J17 62)) :: (.slice A7 xs.length c7) :: (.int .i64 q) :: (.slice (some ⟨g24, 0, none⟩) 1 1) :: (.slice A26 xs29.length c27) :: ((J3 67)) :: ((J3 68)) :: ((J3 69)) :: ((J3 70)) :: undef :: undef :: undef :: undef :: undef :: undef :: undef :: undef :: undef :: undef :: undef :: undef :: undef :: undef :: undef :: undef :: undef :: undef :: undef :: undef :: undef :: undef :: undef :: undef :: undef :: undef :: undef :: undef :: undef :: undef :: undef :: undef :: undef :: undef :: undef :: undef :: undef :: undef :: undef :: undef :: undef :: undef :: undef :: undef :: undef :: undef :: undef :: undef :: undef :: undef :: undef :: []) k_ undef), (b + 1), xs29, A26, c27, congrArg Fr (by kernel_rfl), rfl, by omega, by omega, (by rw [xs29_, hxs]; exact irP_s b0 (bsI_e hq (by omega))), HS⟩
    · skip
      refine ql (.bool false) (by kernel_rfl) (R_nbool (p := b < n) (by kernel_rfl) (hc12)) ?_
      refine wpList_nil ?_
      refine x_then ?_
      refine wp_cond_false (by kernel_rfl) ?_
      refine wp_exit ?_
      refine x_thenE ?_
      refine x_thenE ?_
      refine x_hit ?_
      refine x_then ?_
      have hxr : xs = irow n l a := by rw [hxs, show b = n by omega]; rfl
      subst hxr
      refine wp_region_lit ?_
      refine ql (.slice A5 ps.length c5) (by kernel_rfl) (by kernel_rfl) ?_
      refine ql (.slice A7 ((irow n l a).length) c7) (by kernel_rfl) (by kernel_rfl) ?_
      refine kl HS 1 [.slice A7 ((irow n l a).length) c7] 22 1 (by kernel_rfl) (by kernel_rfl) rfl (by decide) ?_
      intro g30 W31 H_
      replace HS : St W (owns []) W31 [row (some ⟨g30, 0, none⟩) 1 1 (cp ([((A7, c7), (irow n l a))])) 22 1, row A5 ps.length c5 (cp ps) 22 1, many (ps.map (rwE 3)), row A7 ((irow n l a).length) c7 (ci .i64 (irow n l a)) 3 1] := H_.cast_ (by kernel_rfl)
      clear H_
      obtain ⟨xs35, xs35_⟩ : ∃ z_ : List Pp, z_ = ps ++ ([((A7, c7), (irow n l a))]) := ⟨_, rfl⟩
      have xs35l : xs35.length = ps.length + 1 := by rw [xs35_, List.length_append] <;> (try simp only [List.length_cons, List.length_nil]) <;> omega
      refine ka1 HS 1 rfl (Src.of_row HS (i := 0) rfl cp_one) [.slice none 0 0] 24 xs35.length (cp xs35) (by omega) (by rw [xs35_, cp_app]) (by kernel_rfl) (by kernel_rfl) (by kernel_rfl) Try.underlying59 (by kernel_rfl) (by kernel_rfl) (by kernel_rfl) (by kernel_rfl) (by decide) (by omega) (by omega) ?_
      intro A32 c33 W34 H_
      replace HS : St W (owns []) W34 [row (some ⟨g30, 0, none⟩) 1 1 (cp ([((A7, c7), (irow n l a))])) 22 1, row A32 xs35.length c33 (cp xs35) 22 1, many (ps.map (rwE 3)), row A7 ((irow n l a).length) c7 (ci .i64 (irow n l a)) 3 1] := H_
      clear H_
      refine ql (.slice A32 xs35.length c33) (by kernel_rfl) (by kernel_rfl) ?_
      refine wpList_nil ?_
      refine x_inb ?_
      refine x_then ?_
      replace HS : St W (owns []) W34 [row A7 ((irow n l a).length) c7 (ci .i64 (irow n l a)) 3 1, many (ps.map (rwE 3)), row A32 xs35.length c33 (cp xs35) 22 1, row (some ⟨g30, 0, none⟩) 1 1 (cp ([((A7, c7), (irow n l a))])) 22 1] := HS.perm (perm_ [3, 2, 1, 0] (by kernel_rfl) rfl)
      replace HS : St W (owns []) W34 [many ((ps ++ [((A7, c7), (irow n l a))]).map (rwE 3)), row A32 xs35.length c33 (cp xs35) 22 1, row (some ⟨g30, 0, none⟩) 1 1 (cp ([((A7, c7), (irow n l a))])) 22 1] := HS.addRw
      have hxq : xs35 = (ps ++ [((A7, c7), (irow n l a))]) := by rw [xs35_]
      clear xs35l xs35_
      subst hxq
      refine wp_region_lit ?_
      refine ql (.int .i64 a) (by kernel_rfl) (by kernel_rfl) ?_
      refine ql (.int .i64 (a + 1)) (by kernel_rfl) (R_int (by kernel_rfl) (w64 (by omega))) ?_
      refine ql (.int .i64 (a + 1)) (by kernel_rfl) (by kernel_rfl) ?_
      refine wpList_nil ?_
      replace HS : St W (owns []) W34 [row A32 ((ps ++ [((A7, c7), (irow n l a))]).length) c33 (cp (ps ++ [((A7, c7), (irow n l a))])) 22 1, many ((ps ++ [((A7, c7), (irow n l a))]).map (rwE 3))] := St.tail (F := [row (some ⟨g30, 0, none⟩) 1 1 (cp ([((A7, c7), (irow n l a))])) 22 1]) (HS.perm (perm_ [2, 1, 0] (by kernel_rfl) rfl))
      refine x_then ?_
      exact ⟨(n - (a + 1)).toNat, by omega, (fun k_ : Nat => List.getD ((.int .i64 n) :: (.slice Al l.length cl) :: undef :: undef :: (.slice none 0 0) :: (.slice A32 ((ps ++ [((A7, c7), (irow n l a))]).length) c33) :: (.int .i64 (a + 1)) :: (.slice A7 ((irow n l a).length) c7) :: (.int .i64 b) :: ((J9 9)) :: ((J9 10)) :: undef :: undef :: undef :: undef :: (.slice (some ⟨g1, 0, none⟩) 0 0) :: (.int .i64 n) :: (.bool false) :: (.bool false) :: (.int .i64 n) :: (.bool false) :: (.bool false) :: undef :: (.int .i64 a) :: (.int .i64 n) :: (.bool true) :: (.int .i64 a) :: (.int .i64 (a + 1)) :: (.slice (some ⟨g7, 0, none⟩) 0 0) :: (.int .i64 b) :: (.int .i64 n) :: (.bool false) :: ((J9 32)) :: ((J9 33)) :: ((J9 34)) :: ((J9 35)) :: ((J9 36)) :: ((J9 37)) :: ((J9 38)) :: ((J9 39)) :: ((J9 40)) :: ((J9 41)) :: ((J9 42)) :: ((J9 43)) :: ((J9 44)) :: ((J9 45)) :: ((J9 46)) :: ((J9 47)) :: ((J9 48)) :: ((J9 49)) :: ((J9 50)) :: ((J9 51)) :: ((J9 52)) :: ((J9 53)) :: ((J9 54)) :: ((J9 55)) :: ((J9 56)) :: ((J9 57)) :: ((J9 58)) :: ((J9 59)) :: ((J9 60)) :: ((J9 61)) :: ((J9 62)) :: ((J9 63)) :: ((J9 64)) :: ((J9 65)) :: ((J9 66)) :: (.slice A5 ps.length c5) :: (.slice A7 ((irow n l a).length) c7) :: (.slice (some ⟨g30, 0, none⟩) 1 1) :: (.slice A32 ((ps ++ [((A7, c7), (irow n l a))]).length) c33) :: undef :: undef :: undef :: undef :: undef :: undef :: undef :: undef :: undef :: undef :: undef :: undef :: undef :: undef :: undef :: undef :: undef :: undef :: undef :: undef :: undef :: undef :: undef :: undef :: undef :: undef :: undef :: undef :: undef :: undef :: undef :: undef :: undef :: undef :: undef :: undef :: undef :: undef :: undef :: undef :: undef :: undef :: undef :: undef :: undef :: undef :: undef :: undef :: undef :: undef :: undef :: []) k_ undef), (a + 1), (ps ++ [((A7, c7), (irow n l a))]), A32, c33, congrArg Fr (by kernel_rfl), rfl, by omega, by omega, rws_s hps a0, HS⟩
  · skip
    refine ql (.bool false) (by kernel_rfl) (R_nbool (p := a < n) (by kernel_rfl) (hc6)) ?_
    refine wpList_nil ?_
    refine x_then ?_
    refine wp_cond_false (by kernel_rfl) ?_
    refine wp_exit ?_
    refine x_thenE ?_
    refine x_thenE ?_
    refine x_hit ?_
    refine x_then ?_
    refine wp_seq ?_
    refine wp_seq ?_
    refine wp_region_lit ?_
    refine ql (.bool true) (by kernel_rfl) (by kernel_rfl) ?_
    refine wpList_nil ?_
    refine x_then ?_
    refine wp_block ?_
    have hI0 : InvM n l ps := by have ha_ : a = n := (by omega); subst ha_; exact invM_start h0 hps
    have hpl := hI0.len
    refine wp_loop_ghost (fun kq a' w' => ∃ (J36 : Nat → Value) (m : Bool) (qs : List Pp) , a' = Fr ((.int .i64 n) :: (.slice Al l.length cl) :: undef :: undef :: (.slice none 0 0) :: (.slice A5 ps.length c5) :: (.int .i64 a) :: ((J3 7)) :: ((J3 8)) :: ((J3 9)) :: ((J3 10)) :: (.bool m) :: ((J36 12)) :: ((J36 13)) :: ((J36 14)) :: (.slice (some ⟨g1, 0, none⟩) 0 0) :: (.int .i64 n) :: (.bool false) :: (.bool false) :: (.int .i64 n) :: (.bool false) :: (.bool false) :: undef :: (.int .i64 a) :: (.int .i64 n) :: (.bool false) :: ((J3 26)) :: ((J3 27)) :: ((J3 28)) :: ((J3 29)) :: ((J3 30)) :: ((J3 31)) :: ((J3 32)) :: ((J3 33)) :: ((J3 34)) :: ((J3 35)) :: ((J3 36)) :: ((J3 37)) :: ((J3 38)) :: ((J3 39)) :: ((J3 40)) :: ((J3 41)) :: ((J3 42)) :: ((J3 43)) :: ((J3 44)) :: ((J3 45)) :: ((J3 46)) :: ((J3 47)) :: ((J3 48)) :: ((J3 49)) :: ((J3 50)) :: ((J3 51)) :: ((J3 52)) :: ((J3 53)) :: ((J3 54)) :: ((J3 55)) :: ((J3 56)) :: ((J3 57)) :: ((J3 58)) :: ((J3 59)) :: ((J3 60)) :: ((J3 61)) :: ((J3 62)) :: ((J3 63)) :: ((J3 64)) :: ((J3 65)) :: ((J3 66)) :: ((J3 67)) :: ((J3 68)) :: ((J3 69)) :: ((J3 70)) :: ((J36 71)) :: ((J36 72)) :: ((J36 73)) :: ((J36 74)) :: ((J36 75)) :: ((J36 76)) :: ((J36 77)) :: ((J36 78)) :: ((J36 79)) :: ((J36 80)) :: ((J36 81)) :: ((J36 82)) :: ((J36 83)) :: ((J36 84)) :: ((J36 85)) :: ((J36 86)) :: ((J36 87)) :: ((J36 88)) :: ((J36 89)) :: ((J36 90)) :: ((J36 91)) :: ((J36 92)) :: ((J36 93)) :: ((J36 94)) :: ((J36 95)) :: ((J36 96)) :: ((J36 97)) :: ((J36 98)) :: ((J36 99)) :: ((J36 100)) :: ((J36 101)) :: ((J36 102)) :: ((J36 103)) :: ((J36 104)) :: ((J36 105)) :: ((J36 106)) :: ((J36 107)) :: ((J36 108)) :: ((J36 109)) :: ((J36 110)) :: ((J36 111)) :: ((J36 112)) :: ((J36 113)) :: ((J36 114)) :: ((J36 115)) :: ((J36 116)) :: ((J36 117)) :: ((J36 118)) :: ((J36 119)) :: ((J36 120)) :: undef :: []) ∧ kq = (2 * zer qs + (if m then 1 else 0)) ∧ (InvM n l qs) ∧ (m = false → RM n l qs) ∧ St W (owns []) w' [row A5 ps.length c5 (cp qs) 22 1, many (qs.map (rwE 3))]) (2 * zer ps + (if true then 1 else 0)) ⟨(fun k_ : Nat => List.getD ((.int .i64 n) :: (.slice Al l.length cl) :: undef :: undef :: (.slice none 0 0) :: (.slice A5 ps.length c5) :: (.int .i64 a) :: ((J3 7)) :: ((J3 8)) :: ((J3 9)) :: ((J3 10)) :: (.bool true) :: undef :: undef :: undef :: (.slice (some ⟨g1, 0, none⟩) 0 0) :: (.int .i64 n) :: (.bool false) :: (.bool false) :: (.int .i64 n) :: (.bool false) :: (.bool false) :: undef :: (.int .i64 a) :: (.int .i64 n) :: (.bool false) :: ((J3 26)) :: ((J3 27)) :: ((J3 28)) :: ((J3 29)) :: ((J3 30)) :: ((J3 31)) :: ((J3 32)) :: ((J3 33)) :: ((J3 34)) :: ((J3 35)) :: ((J3 36)) :: ((J3 37)) :: ((J3 38)) :: ((J3 39)) :: ((J3 40)) :: ((J3 41)) :: ((J3 42)) :: ((J3 43)) :: ((J3 44)) :: ((J3 45)) :: ((J3 46)) :: ((J3 47)) :: ((J3 48)) :: ((J3 49)) :: ((J3 50)) :: ((J3 51)) :: ((J3 52)) :: ((J3 53)) :: ((J3 54)) :: ((J3 55)) :: ((J3 56)) :: ((J3 57)) :: ((J3 58)) :: ((J3 59)) :: ((J3 60)) :: ((J3 61)) :: ((J3 62)) :: ((J3 63)) :: ((J3 64)) :: ((J3 65)) :: ((J3 66)) :: ((J3 67)) :: ((J3 68)) :: ((J3 69)) :: ((J3 70)) :: undef :: undef :: undef :: undef :: undef :: undef :: undef :: undef :: undef :: undef :: undef :: undef :: undef :: undef :: undef :: undef :: undef :: undef :: undef :: undef :: undef :: undef :: undef :: undef :: undef :: undef :: undef :: undef :: undef :: undef :: undef :: undef :: undef :: undef :: undef :: undef :: undef :: undef :: undef :: undef :: undef :: undef :: undef :: undef :: undef :: undef :: undef :: undef :: undef :: undef :: undef :: []) k_ undef), true, ps, congrArg Fr (by kernel_rfl), rfl, hI0, (fun h => nomatch h), HS⟩ ?_
    clear HS
    intro kq37 a' W38 hrel
    obtain ⟨J36, m, qs, rfl, hk, hI, hm, HS⟩ := hrel
    refine wp_seq ?_
    refine wp_seq ?_
    refine wp_region_lit ?_
    refine ql (.bool m) (by kernel_rfl) (by kernel_rfl) ?_
    refine wpList_nil ?_
    refine x_then ?_
    by_cases hc39 : m = true
    · skip
      refine wp_cond_true (kb_eq (b := m) (by kernel_rfl) hc39) ?_
      refine wp_skip ?_
      refine x_then ?_
      refine wp_block ?_
      refine wp_seq ?_
      refine wp_region_lit ?_
      refine ql (.bool false) (by kernel_rfl) (by kernel_rfl) ?_
      refine wpList_nil ?_
      refine x_then ?_
      refine wp_seq ?_
      refine wp_region_lit ?_
      refine ql (.int .i64 0) (by kernel_rfl) (by kernel_rfl) ?_
      refine wpList_nil ?_
      refine x_then ?_
      refine wp_block ?_
      refine wp_loop_ghost (fun kq a' w' => ∃ (J40 : Nat → Value) (a_ : Int) (m1 : Bool) (qs1 : List Pp) , a' = Fr ((.int .i64 n) :: (.slice Al l.length cl) :: undef :: undef :: (.slice none 0 0) :: (.slice A5 ps.length c5) :: (.int .i64 a) :: ((J3 7)) :: ((J3 8)) :: ((J3 9)) :: ((J3 10)) :: (.bool m1) :: (.int .i64 a_) :: ((J40 13)) :: ((J40 14)) :: (.slice (some ⟨g1, 0, none⟩) 0 0) :: (.int .i64 n) :: (.bool false) :: (.bool false) :: (.int .i64 n) :: (.bool false) :: (.bool false) :: undef :: (.int .i64 a) :: (.int .i64 n) :: (.bool false) :: ((J3 26)) :: ((J3 27)) :: ((J3 28)) :: ((J3 29)) :: ((J3 30)) :: ((J3 31)) :: ((J3 32)) :: ((J3 33)) :: ((J3 34)) :: ((J3 35)) :: ((J3 36)) :: ((J3 37)) :: ((J3 38)) :: ((J3 39)) :: ((J3 40)) :: ((J3 41)) :: ((J3 42)) :: ((J3 43)) :: ((J3 44)) :: ((J3 45)) :: ((J3 46)) :: ((J3 47)) :: ((J3 48)) :: ((J3 49)) :: ((J3 50)) :: ((J3 51)) :: ((J3 52)) :: ((J3 53)) :: ((J3 54)) :: ((J3 55)) :: ((J3 56)) :: ((J3 57)) :: ((J3 58)) :: ((J3 59)) :: ((J3 60)) :: ((J3 61)) :: ((J3 62)) :: ((J3 63)) :: ((J3 64)) :: ((J3 65)) :: ((J3 66)) :: ((J3 67)) :: ((J3 68)) :: ((J3 69)) :: ((J3 70)) :: (.bool m) :: ((J40 72)) :: ((J40 73)) :: ((J40 74)) :: ((J40 75)) :: ((J40 76)) :: ((J40 77)) :: ((J40 78)) :: ((J40 79)) :: ((J40 80)) :: ((J40 81)) :: ((J40 82)) :: ((J40 83)) :: ((J40 84)) :: ((J40 85)) :: ((J40 86)) :: ((J40 87)) :: ((J40 88)) :: ((J40 89)) :: ((J40 90)) :: ((J40 91)) :: ((J40 92)) :: ((J40 93)) :: ((J40 94)) :: ((J40 95)) :: ((J40 96)) :: ((J40 97)) :: ((J40 98)) :: ((J40 99)) :: ((J40 100)) :: ((J40 101)) :: ((J40 102)) :: ((J40 103)) :: ((J40 104)) :: ((J40 105)) :: ((J40 106)) :: ((J40 107)) :: ((J40 108)) :: ((J40 109)) :: ((J40 110)) :: ((J40 111)) :: ((J40 112)) :: ((J40 113)) :: ((J40 114)) :: ((J40 115)) :: ((J40 116)) :: ((J40 117)) :: ((J40 118)) :: ((J40 119)) :: ((J40 120)) :: undef :: []) ∧ kq = ((n - a_).toNat) ∧ (0 ≤ a_) ∧ (a_ ≤ n) ∧ (InvM n l qs1) ∧ (Pr n (zer qs) m1 qs1 a_ 0 0) ∧ St W (owns []) w' [row A5 ps.length c5 (cp qs1) 22 1, many (qs1.map (rwE 3))]) ((n - (0 : Int)).toNat) ⟨(fun k_ : Nat => List.getD ((.int .i64 n) :: (.slice Al l.length cl) :: undef :: undef :: (.slice none 0 0) :: (.slice A5 ps.length c5) :: (.int .i64 a) :: ((J3 7)) :: ((J3 8)) :: ((J3 9)) :: ((J3 10)) :: (.bool false) :: (.int .i64 0) :: ((J36 13)) :: ((J36 14)) :: (.slice (some ⟨g1, 0, none⟩) 0 0) :: (.int .i64 n) :: (.bool false) :: (.bool false) :: (.int .i64 n) :: (.bool false) :: (.bool false) :: undef :: (.int .i64 a) :: (.int .i64 n) :: (.bool false) :: ((J3 26)) :: ((J3 27)) :: ((J3 28)) :: ((J3 29)) :: ((J3 30)) :: ((J3 31)) :: ((J3 32)) :: ((J3 33)) :: ((J3 34)) :: ((J3 35)) :: ((J3 36)) :: ((J3 37)) :: ((J3 38)) :: ((J3 39)) :: ((J3 40)) :: ((J3 41)) :: ((J3 42)) :: ((J3 43)) :: ((J3 44)) :: ((J3 45)) :: ((J3 46)) :: ((J3 47)) :: ((J3 48)) :: ((J3 49)) :: ((J3 50)) :: ((J3 51)) :: ((J3 52)) :: ((J3 53)) :: ((J3 54)) :: ((J3 55)) :: ((J3 56)) :: ((J3 57)) :: ((J3 58)) :: ((J3 59)) :: ((J3 60)) :: ((J3 61)) :: ((J3 62)) :: ((J3 63)) :: ((J3 64)) :: ((J3 65)) :: ((J3 66)) :: ((J3 67)) :: ((J3 68)) :: ((J3 69)) :: ((J3 70)) :: (.bool m) :: ((J36 72)) :: ((J36 73)) :: ((J36 74)) :: ((J36 75)) :: ((J36 76)) :: ((J36 77)) :: ((J36 78)) :: ((J36 79)) :: ((J36 80)) :: ((J36 81)) :: ((J36 82)) :: ((J36 83)) :: ((J36 84)) :: ((J36 85)) :: ((J36 86)) :: ((J36 87)) :: ((J36 88)) :: ((J36 89)) :: ((J36 90)) :: ((J36 91)) :: ((J36 92)) :: ((J36 93)) :: ((J36 94)) :: ((J36 95)) :: ((J36 96)) :: ((J36 97)) :: ((J36 98)) :: ((J36 99)) :: ((J36 100)) :: ((J36 101)) :: ((J36 102)) :: ((J36 103)) :: ((J36 104)) :: ((J36 105)) :: ((J36 106)) :: ((J36 107)) :: ((J36 108)) :: ((J36 109)) :: ((J36 110)) :: ((J36 111)) :: ((J36 112)) :: ((J36 113)) :: ((J36 114)) :: ((J36 115)) :: ((J36 116)) :: ((J36 117)) :: ((J36 118)) :: ((J36 119)) :: ((J36 120)) :: undef :: []) k_ undef), (0 : Int), false, qs, congrArg Fr (by kernel_rfl), rfl, by omega, by omega, hI, (pr_start n qs), HS⟩ ?_
      clear HS
      intro kq41 a' W42 hrel
      obtain ⟨J40, a_, m1, qs1, rfl, hk, a_0, a_1, hI1, hP1, HS⟩ := hrel
      refine wp_seq ?_
      refine wp_seq ?_
      refine wp_region_lit ?_
      refine ql (.int .i64 a_) (by kernel_rfl) (by kernel_rfl) ?_
      refine ql (.int .i64 n) (by kernel_rfl) (by kernel_rfl) ?_
      by_cases hc43 : a_ < n
      · skip
        refine ql (.bool true) (by kernel_rfl) (R_bool (p := a_ < n) (by kernel_rfl) (hc43)) ?_
        refine wpList_nil ?_
        refine x_then ?_
        refine wp_cond_true (by kernel_rfl) ?_
        refine wp_skip ?_
        refine x_then ?_
        refine wp_seq ?_
        refine wp_block ?_
        refine wp_seq ?_
        refine wp_region_lit ?_
        refine ql (.int .i64 0) (by kernel_rfl) (by kernel_rfl) ?_
        refine wpList_nil ?_
        refine x_then ?_
        refine wp_block ?_
        refine wp_loop_ghost (fun kq a' w' => ∃ (J44 : Nat → Value) (b_ : Int) (m2 : Bool) (qs2 : List Pp) , a' = Fr ((.int .i64 n) :: (.slice Al l.length cl) :: undef :: undef :: (.slice none 0 0) :: (.slice A5 ps.length c5) :: (.int .i64 a) :: ((J3 7)) :: ((J3 8)) :: ((J3 9)) :: ((J3 10)) :: (.bool m2) :: (.int .i64 a_) :: (.int .i64 b_) :: ((J44 14)) :: (.slice (some ⟨g1, 0, none⟩) 0 0) :: (.int .i64 n) :: (.bool false) :: (.bool false) :: (.int .i64 n) :: (.bool false) :: (.bool false) :: undef :: (.int .i64 a) :: (.int .i64 n) :: (.bool false) :: ((J3 26)) :: ((J3 27)) :: ((J3 28)) :: ((J3 29)) :: ((J3 30)) :: ((J3 31)) :: ((J3 32)) :: ((J3 33)) :: ((J3 34)) :: ((J3 35)) :: ((J3 36)) :: ((J3 37)) :: ((J3 38)) :: ((J3 39)) :: ((J3 40)) :: ((J3 41)) :: ((J3 42)) :: ((J3 43)) :: ((J3 44)) :: ((J3 45)) :: ((J3 46)) :: ((J3 47)) :: ((J3 48)) :: ((J3 49)) :: ((J3 50)) :: ((J3 51)) :: ((J3 52)) :: ((J3 53)) :: ((J3 54)) :: ((J3 55)) :: ((J3 56)) :: ((J3 57)) :: ((J3 58)) :: ((J3 59)) :: ((J3 60)) :: ((J3 61)) :: ((J3 62)) :: ((J3 63)) :: ((J3 64)) :: ((J3 65)) :: ((J3 66)) :: ((J3 67)) :: ((J3 68)) :: ((J3 69)) :: ((J3 70)) :: (.bool m) :: (.int .i64 a_) :: (.int .i64 n) :: (.bool true) :: ((J40 75)) :: ((J40 76)) :: ((J44 77)) :: ((J44 78)) :: ((J44 79)) :: ((J44 80)) :: ((J44 81)) :: ((J44 82)) :: ((J44 83)) :: ((J44 84)) :: ((J44 85)) :: ((J44 86)) :: ((J44 87)) :: ((J44 88)) :: ((J44 89)) :: ((J44 90)) :: ((J44 91)) :: ((J44 92)) :: ((J44 93)) :: ((J44 94)) :: ((J44 95)) :: ((J44 96)) :: ((J44 97)) :: ((J44 98)) :: ((J44 99)) :: ((J44 100)) :: ((J44 101)) :: ((J44 102)) :: ((J44 103)) :: ((J44 104)) :: ((J44 105)) :: ((J44 106)) :: ((J44 107)) :: ((J44 108)) :: ((J44 109)) :: ((J44 110)) :: ((J44 111)) :: ((J44 112)) :: ((J44 113)) :: ((J44 114)) :: ((J44 115)) :: ((J44 116)) :: ((J44 117)) :: ((J44 118)) :: ((J44 119)) :: ((J44 120)) :: undef :: []) ∧ kq = ((n - b_).toNat) ∧ (0 ≤ b_) ∧ (b_ ≤ n) ∧ (InvM n l qs2) ∧ (Pr n (zer qs) m2 qs2 a_ b_ 0) ∧ St W (owns []) w' [row A5 ps.length c5 (cp qs2) 22 1, many (qs2.map (rwE 3))]) ((n - (0 : Int)).toNat) ⟨(fun k_ : Nat => List.getD ((.int .i64 n) :: (.slice Al l.length cl) :: undef :: undef :: (.slice none 0 0) :: (.slice A5 ps.length c5) :: (.int .i64 a) :: ((J3 7)) :: ((J3 8)) :: ((J3 9)) :: ((J3 10)) :: (.bool m1) :: (.int .i64 a_) :: (.int .i64 0) :: ((J40 14)) :: (.slice (some ⟨g1, 0, none⟩) 0 0) :: (.int .i64 n) :: (.bool false) :: (.bool false) :: (.int .i64 n) :: (.bool false) :: (.bool false) :: undef :: (.int .i64 a) :: (.int .i64 n) :: (.bool false) :: ((J3 26)) :: ((J3 27)) :: ((J3 28)) :: ((J3 29)) :: ((J3 30)) :: ((J3 31)) :: ((J3 32)) :: ((J3 33)) :: ((J3 34)) :: ((J3 35)) :: ((J3 36)) :: ((J3 37)) :: ((J3 38)) :: ((J3 39)) :: ((J3 40)) :: ((J3 41)) :: ((J3 42)) :: ((J3 43)) :: ((J3 44)) :: ((J3 45)) :: ((J3 46)) :: ((J3 47)) :: ((J3 48)) :: ((J3 49)) :: ((J3 50)) :: ((J3 51)) :: ((J3 52)) :: ((J3 53)) :: ((J3 54)) :: ((J3 55)) :: ((J3 56)) :: ((J3 57)) :: ((J3 58)) :: ((J3 59)) :: ((J3 60)) :: ((J3 61)) :: ((J3 62)) :: ((J3 63)) :: ((J3 64)) :: ((J3 65)) :: ((J3 66)) :: ((J3 67)) :: ((J3 68)) :: ((J3 69)) :: ((J3 70)) :: (.bool m) :: (.int .i64 a_) :: (.int .i64 n) :: (.bool true) :: ((J40 75)) :: ((J40 76)) :: ((J40 77)) :: ((J40 78)) :: ((J40 79)) :: ((J40 80)) :: ((J40 81)) :: ((J40 82)) :: ((J40 83)) :: ((J40 84)) :: ((J40 85)) :: ((J40 86)) :: ((J40 87)) :: ((J40 88)) :: ((J40 89)) :: ((J40 90)) :: ((J40 91)) :: ((J40 92)) :: ((J40 93)) :: ((J40 94)) :: ((J40 95)) :: ((J40 96)) :: ((J40 97)) :: ((J40 98)) :: ((J40 99)) :: ((J40 100)) :: ((J40 101)) :: ((J40 102)) :: ((J40 103)) :: ((J40 104)) :: ((J40 105)) :: ((J40 106)) :: ((J40 107)) :: ((J40 108)) :: ((J40 109)) :: ((J40 110)) :: ((J40 111)) :: ((J40 112)) :: ((J40 113)) :: ((J40 114)) :: ((J40 115)) :: ((J40 116)) :: ((J40 117)) :: ((J40 118)) :: ((J40 119)) :: ((J40 120)) :: undef :: []) k_ undef), (0 : Int), m1, qs1, congrArg Fr (by kernel_rfl), rfl, by omega, by omega, hI1, hP1, HS⟩ ?_
        clear HS
        intro kq45 a' W46 hrel
        obtain ⟨J44, b_, m2, qs2, rfl, hk, b_0, b_1, hI2, hP2, HS⟩ := hrel
        refine wp_seq ?_
        refine wp_seq ?_
        refine wp_region_lit ?_
        refine ql (.int .i64 b_) (by kernel_rfl) (by kernel_rfl) ?_
        refine ql (.int .i64 n) (by kernel_rfl) (by kernel_rfl) ?_
        by_cases hc47 : b_ < n
        · skip
          refine ql (.bool true) (by kernel_rfl) (R_bool (p := b_ < n) (by kernel_rfl) (hc47)) ?_
          refine wpList_nil ?_
          refine x_then ?_
          refine wp_cond_true (by kernel_rfl) ?_
          refine wp_skip ?_
          refine x_then ?_
          refine wp_seq ?_
          refine wp_block ?_
          refine wp_seq ?_
          refine wp_region_lit ?_
          refine ql (.int .i64 0) (by kernel_rfl) (by kernel_rfl) ?_
          refine wpList_nil ?_
          refine x_then ?_
          refine wp_block ?_
          refine wp_loop_ghost (fun kq a' w' => ∃ (J48 : Nat → Value) (c_ : Int) (m3 : Bool) (qs3 : List Pp) , a' = Fr ((.int .i64 n) :: (.slice Al l.length cl) :: undef :: undef :: (.slice none 0 0) :: (.slice A5 ps.length c5) :: (.int .i64 a) :: ((J3 7)) :: ((J3 8)) :: ((J3 9)) :: ((J3 10)) :: (.bool m3) :: (.int .i64 a_) :: (.int .i64 b_) :: (.int .i64 c_) :: (.slice (some ⟨g1, 0, none⟩) 0 0) :: (.int .i64 n) :: (.bool false) :: (.bool false) :: (.int .i64 n) :: (.bool false) :: (.bool false) :: undef :: (.int .i64 a) :: (.int .i64 n) :: (.bool false) :: ((J3 26)) :: ((J3 27)) :: ((J3 28)) :: ((J3 29)) :: ((J3 30)) :: ((J3 31)) :: ((J3 32)) :: ((J3 33)) :: ((J3 34)) :: ((J3 35)) :: ((J3 36)) :: ((J3 37)) :: ((J3 38)) :: ((J3 39)) :: ((J3 40)) :: ((J3 41)) :: ((J3 42)) :: ((J3 43)) :: ((J3 44)) :: ((J3 45)) :: ((J3 46)) :: ((J3 47)) :: ((J3 48)) :: ((J3 49)) :: ((J3 50)) :: ((J3 51)) :: ((J3 52)) :: ((J3 53)) :: ((J3 54)) :: ((J3 55)) :: ((J3 56)) :: ((J3 57)) :: ((J3 58)) :: ((J3 59)) :: ((J3 60)) :: ((J3 61)) :: ((J3 62)) :: ((J3 63)) :: ((J3 64)) :: ((J3 65)) :: ((J3 66)) :: ((J3 67)) :: ((J3 68)) :: ((J3 69)) :: ((J3 70)) :: (.bool m) :: (.int .i64 a_) :: (.int .i64 n) :: (.bool true) :: ((J40 75)) :: ((J40 76)) :: (.int .i64 b_) :: (.int .i64 n) :: (.bool true) :: ((J44 80)) :: ((J44 81)) :: ((J48 82)) :: ((J48 83)) :: ((J48 84)) :: ((J48 85)) :: ((J48 86)) :: ((J48 87)) :: ((J48 88)) :: ((J48 89)) :: ((J48 90)) :: ((J48 91)) :: ((J48 92)) :: ((J48 93)) :: ((J48 94)) :: ((J48 95)) :: ((J48 96)) :: ((J48 97)) :: ((J48 98)) :: ((J48 99)) :: ((J48 100)) :: ((J48 101)) :: ((J48 102)) :: ((J48 103)) :: ((J48 104)) :: ((J48 105)) :: ((J48 106)) :: ((J48 107)) :: ((J48 108)) :: ((J48 109)) :: ((J48 110)) :: ((J48 111)) :: ((J48 112)) :: ((J48 113)) :: ((J48 114)) :: ((J48 115)) :: ((J48 116)) :: ((J48 117)) :: ((J48 118)) :: ((J48 119)) :: ((J48 120)) :: undef :: []) ∧ kq = ((n - c_).toNat) ∧ (0 ≤ c_) ∧ (c_ ≤ n) ∧ (InvM n l qs3) ∧ (Pr n (zer qs) m3 qs3 a_ b_ c_) ∧ St W (owns []) w' [row A5 ps.length c5 (cp qs3) 22 1, many (qs3.map (rwE 3))]) ((n - (0 : Int)).toNat) ⟨(fun k_ : Nat => List.getD ((.int .i64 n) :: (.slice Al l.length cl) :: undef :: undef :: (.slice none 0 0) :: (.slice A5 ps.length c5) :: (.int .i64 a) :: ((J3 7)) :: ((J3 8)) :: ((J3 9)) :: ((J3 10)) :: (.bool m2) :: (.int .i64 a_) :: (.int .i64 b_) :: (.int .i64 0) :: (.slice (some ⟨g1, 0, none⟩) 0 0) :: (.int .i64 n) :: (.bool false) :: (.bool false) :: (.int .i64 n) :: (.bool false) :: (.bool false) :: undef :: (.int .i64 a) :: (.int .i64 n) :: (.bool false) :: ((J3 26)) :: ((J3 27)) :: ((J3 28)) :: ((J3 29)) :: ((J3 30)) :: ((J3 31)) :: ((J3 32)) :: ((J3 33)) :: ((J3 34)) :: ((J3 35)) :: ((J3 36)) :: ((J3 37)) :: ((J3 38)) :: ((J3 39)) :: ((J3 40)) :: ((J3 41)) :: ((J3 42)) :: ((J3 43)) :: ((J3 44)) :: ((J3 45)) :: ((J3 46)) :: ((J3 47)) :: ((J3 48)) :: ((J3 49)) :: ((J3 50)) :: ((J3 51)) :: ((J3 52)) :: ((J3 53)) :: ((J3 54)) :: ((J3 55)) :: ((J3 56)) :: ((J3 57)) :: ((J3 58)) :: ((J3 59)) :: ((J3 60)) :: ((J3 61)) :: ((J3 62)) :: ((J3 63)) :: ((J3 64)) :: ((J3 65)) :: ((J3 66)) :: ((J3 67)) :: ((J3 68)) :: ((J3 69)) :: ((J3 70)) :: (.bool m) :: (.int .i64 a_) :: (.int .i64 n) :: (.bool true) :: ((J40 75)) :: ((J40 76)) :: (.int .i64 b_) :: (.int .i64 n) :: (.bool true) :: ((J44 80)) :: ((J44 81)) :: ((J44 82)) :: ((J44 83)) :: ((J44 84)) :: ((J44 85)) :: ((J44 86)) :: ((J44 87)) :: ((J44 88)) :: ((J44 89)) :: ((J44 90)) :: ((J44 91)) :: ((J44 92)) :: ((J44 93)) :: ((J44 94)) :: ((J44 95)) :: ((J44 96)) :: ((J44 97)) :: ((J44 98)) :: ((J44 99)) :: ((J44 100)) :: ((J44 101)) :: ((J44 102)) :: ((J44 103)) :: ((J44 104)) :: ((J44 105)) :: ((J44 106)) :: ((J44 107)) :: ((J44 108)) :: ((J44 109)) :: ((J44 110)) :: ((J44 111)) :: ((J44 112)) :: ((J44 113)) :: ((J44 114)) :: ((J44 115)) :: ((J44 116)) :: ((J44 117)) :: ((J44 118)) :: ((J44 119)) :: ((J44 120)) :: undef :: []) k_ undef), (0 : Int), m2, qs2, congrArg Fr (by kernel_rfl), rfl, by omega, by omega, hI2, hP2, HS⟩ ?_
          clear HS
          intro kq49 a' W50 hrel
          obtain ⟨J48, c_, m3, qs3, rfl, hk, c_0, c_1, hI3, hP3, HS⟩ := hrel
          have hql := hI3.len
          refine wp_seq ?_
          refine wp_seq ?_
          refine wp_region_lit ?_
          refine ql (.int .i64 c_) (by kernel_rfl) (by kernel_rfl) ?_
          refine ql (.int .i64 n) (by kernel_rfl) (by kernel_rfl) ?_
          by_cases hc51 : c_ < n
          · skip
            refine ql (.bool true) (by kernel_rfl) (R_bool (p := c_ < n) (by kernel_rfl) (hc51)) ?_
            refine wpList_nil ?_
            refine x_then ?_
            refine wp_cond_true (by kernel_rfl) ?_
            refine wp_skip ?_
            refine x_then ?_
            refine wp_seq ?_
            refine wp_block ?_
            refine wp_seq ?_
            refine wp_region_lit ?_
            refine ql (.slice A5 ps.length c5) (by kernel_rfl) (by kernel_rfl) ?_
            refine ql (.int .i64 a_) (by kernel_rfl) (by kernel_rfl) ?_
            obtain ⟨g52, rfl⟩ := St.rsome HS (i := 0) rfl (by omega)
            refine ql (.pointer (some ⟨g52, a_.toNat, none⟩)) (by kernel_rfl) (R_index1 (k := .i64) (g := g52) (n := ps.length) (c := c5) (i := a_) (by kernel_rfl) (by kernel_rfl) Try.underlying59 (by kernel_rfl) (by omega) (by omega)) ?_
            obtain ⟨Ae53, ce53, le53, he53⟩ : ∃ A_ c_ l_, gx qs3 a_ = ((A_, c_), l_) := ⟨_, _, _, rfl⟩
            have he53m := gx_in (xs := qs3) (i := a_) (by omega) (by omega)
            rw [he53] at he53m
            have le53n : (le53.length : Int) = n := hI3.rl _ he53m
            have hbt := hI3.bit a_ c_ a_0 (by omega) c_0 (by omega)
            refine ql (.slice Ae53 le53.length ce53) (by kernel_rfl) (R_load (p := ⟨g52, a_.toNat, none⟩) (by kernel_rfl) (by kernel_rfl) (by kernel_rfl) (HS.rcell (i := 0) rfl (cp_at (by omega) (by omega) he53))) ?_
            refine ql (.int .i64 b_) (by kernel_rfl) (by kernel_rfl) ?_
            obtain ⟨ad54, rfl⟩ := Rd.isSome_ (rws_rd (HS.hasP (i := 1) rfl) he53m) (by rw [ci_len]; omega)
            refine ql (.pointer (some (ad54.add b_.toNat))) (by kernel_rfl) (R_indexA1 (k := .i64) (p := ad54) (n := le53.length) (c := ce53) (i := b_) (by kernel_rfl) (by kernel_rfl) Try.underlying22 (by kernel_rfl) (by omega) (by omega)) ?_
            refine ql (.int .i64 (rdI le53 b_)) (by kernel_rfl) (R_load (p := ad54.add b_.toNat) (by kernel_rfl) (by kernel_rfl) (by kernel_rfl) ((rws_rd (HS.hasP (i := 1) rfl) he53m).at_ (ci_rd (i := b_) (by omega) (by omega)))) ?_
            by_cases hc55 : (rdI le53 b_) = (1 : Int)
            · skip
              refine ql (.bool true) (by kernel_rfl) (R_beq (b := (rdI le53 b_ == (1 : Int))) (by kernel_rfl) (beq_t (hc55))) ?_
              refine ql (.bool true) (by kernel_rfl) (by kernel_rfl) ?_
              refine ql (.slice (some ⟨g52, 0, none⟩) ps.length c5) (by kernel_rfl) (by kernel_rfl) ?_
              refine ql (.int .i64 b_) (by kernel_rfl) (by kernel_rfl) ?_
              refine ql (.pointer (some ⟨g52, b_.toNat, none⟩)) (by kernel_rfl) (R_index1 (k := .i64) (g := g52) (n := ps.length) (c := c5) (i := b_) (by kernel_rfl) (by kernel_rfl) Try.underlying59 (by kernel_rfl) (by omega) (by omega)) ?_
              obtain ⟨Ae56, ce56, le56, he56⟩ : ∃ A_ c_ l_, gx qs3 b_ = ((A_, c_), l_) := ⟨_, _, _, rfl⟩
              have he56m := gx_in (xs := qs3) (i := b_) (by omega) (by omega)
              rw [he56] at he56m
              have le56n : (le56.length : Int) = n := hI3.rl _ he56m
              refine ql (.slice Ae56 le56.length ce56) (by kernel_rfl) (R_load (p := ⟨g52, b_.toNat, none⟩) (by kernel_rfl) (by kernel_rfl) (by kernel_rfl) (HS.rcell (i := 0) rfl (cp_at (by omega) (by omega) he56))) ?_
              refine ql (.int .i64 c_) (by kernel_rfl) (by kernel_rfl) ?_
              obtain ⟨ad57, rfl⟩ := Rd.isSome_ (rws_rd (HS.hasP (i := 1) rfl) he56m) (by rw [ci_len]; omega)
              refine ql (.pointer (some (ad57.add c_.toNat))) (by kernel_rfl) (R_indexA1 (k := .i64) (p := ad57) (n := le56.length) (c := ce56) (i := c_) (by kernel_rfl) (by kernel_rfl) Try.underlying22 (by kernel_rfl) (by omega) (by omega)) ?_
              refine ql (.int .i64 (rdI le56 c_)) (by kernel_rfl) (R_load (p := ad57.add c_.toNat) (by kernel_rfl) (by kernel_rfl) (by kernel_rfl) ((rws_rd (HS.hasP (i := 1) rfl) he56m).at_ (ci_rd (i := c_) (by omega) (by omega)))) ?_
              by_cases hc58 : (rdI le56 c_) = (1 : Int)
              · skip
                refine ql (.bool true) (by kernel_rfl) (R_beq (b := (rdI le56 c_ == (1 : Int))) (by kernel_rfl) (beq_t (hc58))) ?_
                refine ql (.bool true) (by kernel_rfl) (by kernel_rfl) ?_
                refine ql (.bool true) (by kernel_rfl) (by kernel_rfl) ?_
                refine ql (.slice (some ⟨g52, 0, none⟩) ps.length c5) (by kernel_rfl) (by kernel_rfl) ?_
                refine ql (.int .i64 a_) (by kernel_rfl) (by kernel_rfl) ?_
                refine ql (.pointer (some ⟨g52, a_.toNat, none⟩)) (by kernel_rfl) (R_index1 (k := .i64) (g := g52) (n := ps.length) (c := c5) (i := a_) (by kernel_rfl) (by kernel_rfl) Try.underlying59 (by kernel_rfl) (by omega) (by omega)) ?_
                refine ql (.slice (some ad54) le53.length ce53) (by kernel_rfl) (R_load (p := ⟨g52, a_.toNat, none⟩) (by kernel_rfl) (by kernel_rfl) (by kernel_rfl) (HS.rcell (i := 0) rfl (cp_at (by omega) (by omega) he53))) ?_
                refine ql (.int .i64 c_) (by kernel_rfl) (by kernel_rfl) ?_
                refine ql (.pointer (some (ad54.add c_.toNat))) (by kernel_rfl) (R_indexA1 (k := .i64) (p := ad54) (n := le53.length) (c := ce53) (i := c_) (by kernel_rfl) (by kernel_rfl) Try.underlying22 (by kernel_rfl) (by omega) (by omega)) ?_
                refine ql (.int .i64 (rdI le53 c_)) (by kernel_rfl) (R_load (p := ad54.add c_.toNat) (by kernel_rfl) (by kernel_rfl) (by kernel_rfl) ((rws_rd (HS.hasP (i := 1) rfl) he53m).at_ (ci_rd (i := c_) (by omega) (by omega)))) ?_
                by_cases hc59 : (rdI le53 c_) = (0 : Int)
                · skip
                  refine ql (.bool true) (by kernel_rfl) (R_beq (b := (rdI le53 c_ == (0 : Int))) (by kernel_rfl) (beq_t (hc59))) ?_
                  refine ql (.bool true) (by kernel_rfl) (by kernel_rfl) ?_
                  refine wpList_nil ?_
                  refine x_then ?_
                  refine wp_cond_true (by kernel_rfl) ?_
                  refine wp_seq ?_
                  have hvab : vl qs3 a_ b_ = 1 := (by unfold vl; rw [he53]; exact hc55)
                  have hvbc : vl qs3 b_ c_ = 1 := (by unfold vl; rw [he56]; exact hc58)
                  have hvac : vl qs3 a_ c_ = 0 := (by unfold vl; rw [he53]; exact hc59)
                  replace HS : St W (owns []) W50 [many (qs3.map (rwE 3)), row (some ⟨g52, 0, none⟩) ps.length c5 (cp qs3) 22 1] := HS.perm (perm_ [1, 0] (by kernel_rfl) rfl)
                  replace HS : St W (owns []) W50 [row (some ad54) le53.length ce53 (ci .i64 le53) 3 1, many ((qs3.take a_.toNat ++ qs3.drop (a_.toNat + 1)).map (rwE 3)), row (some ⟨g52, 0, none⟩) ps.length c5 (cp qs3) 22 1] := HS.takeRw (k := a_.toNat) (x := ((some ad54, ce53), le53)) (by rw [gx_eq a_0 (by omega), he53])
                  obtain ⟨g60, hg_⟩ := St.rsome HS (i := 0) rfl (by omega)
                  obtain rfl : ad54 = ⟨g60, 0, none⟩ := Option.some.inj hg_
                  refine wp_region_lit ?_
                  refine ql (.slice (some ⟨g52, 0, none⟩) ps.length c5) (by kernel_rfl) (by kernel_rfl) ?_
                  refine ql (.int .i64 a_) (by kernel_rfl) (by kernel_rfl) ?_
                  refine ql (.pointer (some ⟨g52, a_.toNat, none⟩)) (by kernel_rfl) (R_index1 (k := .i64) (g := g52) (n := ps.length) (c := c5) (i := a_) (by kernel_rfl) (by kernel_rfl) Try.underlying59 (by kernel_rfl) (by omega) (by omega)) ?_
                  refine ql (.slice (some ⟨g60, 0, none⟩) le53.length ce53) (by kernel_rfl) (R_load (p := ⟨g52, a_.toNat, none⟩) (by kernel_rfl) (by kernel_rfl) (by kernel_rfl) (HS.rcell (i := 2) rfl (cp_at (by omega) (by omega) he53))) ?_
                  refine ql (.int .i64 c_) (by kernel_rfl) (by kernel_rfl) ?_
                  refine ql (.pointer (some ⟨g60, c_.toNat, none⟩)) (by kernel_rfl) (R_index1 (k := .i64) (g := g60) (n := le53.length) (c := ce53) (i := c_) (by kernel_rfl) (by kernel_rfl) Try.underlying22 (by kernel_rfl) (by omega) (by omega)) ?_
                  refine kr (v := .int .i64 1) HS 0 rfl (c_.toNat) [.int .i64 1] (by kernel_rfl) (by kernel_rfl) (by kernel_rfl) (by kernel_rfl) (by kernel_rfl) (one_ (by kernel_rfl)) (by rw [ci_len]; first | omega | (simp only [List.length_singleton]; omega)) rfl ?_
                  intro W61 H_
                  obtain ⟨xs62, xs62_⟩ : ∃ z_ : List Int, z_ = (le53).set c_.toNat 1 := ⟨_, rfl⟩
                  replace HS : St W (owns []) W61 [row (some ⟨g60, 0, none⟩) le53.length ce53 (ci .i64 xs62) 3 1, many ((qs3.take a_.toNat ++ qs3.drop (a_.toNat + 1)).map (rwE 3)), row (some ⟨g52, 0, none⟩) ps.length c5 (cp qs3) 22 1] := H_.cast_ (by rw [xs62_, ← ci_set]; rfl)
                  clear H_
                  have xs62l : xs62.length = le53.length := by rw [xs62_, List.length_set]; first | done | omega
                  refine wpList_nil ?_
                  refine x_then ?_
                  refine wp_region_lit ?_
                  refine ql (.bool true) (by kernel_rfl) (by kernel_rfl) ?_
                  refine wpList_nil ?_
                  refine x_inb ?_
                  refine x_then ?_
                  refine wp_region_lit ?_
                  refine ql (.int .i64 c_) (by kernel_rfl) (by kernel_rfl) ?_
                  refine ql (.int .i64 (c_ + 1)) (by kernel_rfl) (R_int (by kernel_rfl) (w64 (by omega))) ?_
                  refine ql (.int .i64 (c_ + 1)) (by kernel_rfl) (by kernel_rfl) ?_
                  refine wpList_nil ?_
                  rw [← xs62l] at HS
                  replace HS : St W (owns []) W61 [many ((qs3.set a_.toNat ((some ⟨g60, 0, none⟩, ce53), xs62)).map (rwE 3)), row (some ⟨g52, 0, none⟩) ps.length c5 (cp qs3) 22 1] := HS.giveRw (by omega)
                  rw [setV_eq he53 xs62_] at HS
                  replace HS : St W (owns []) W61 [many ((setV qs3 a_ c_).map (rwE 3)), row (some ⟨g52, 0, none⟩) ps.length c5 (cp (setV qs3 a_ c_)) 22 1] := by rw [cp_setV a_0 (by omega)]; exact HS
                  replace HS : St W (owns []) W61 [row (some ⟨g52, 0, none⟩) ps.length c5 (cp (setV qs3 a_ c_)) 22 1, many ((setV qs3 a_ c_).map (rwE 3))] := HS.perm (perm_ [1, 0] (by kernel_rfl) rfl)
                  refine x_then ?_
                  exact ⟨(n - (c_ + 1)).toNat, by omega, (fun k_ : Nat => List.getD ((.int .i64 n) :: (.slice Al l.length cl) :: undef :: undef :: (.slice none 0 0) :: (.slice (some ⟨g52, 0, none⟩) ps.length c5) :: (.int .i64 a) :: ((J3 7)) :: ((J3 8)) :: ((J3 9)) :: ((J3 10)) :: (.bool true) :: (.int .i64 a_) :: (.int .i64 b_) :: (.int .i64 (c_ + 1)) :: (.slice (some ⟨g1, 0, none⟩) 0 0) :: (.int .i64 n) :: (.bool false) :: (.bool false) :: (.int .i64 n) :: (.bool false) :: (.bool false) :: undef :: (.int .i64 a) :: (.int .i64 n) :: (.bool false) :: ((J3 26)) :: ((J3 27)) :: ((J3 28)) :: ((J3 29)) :: ((J3 30)) :: ((J3 31)) :: ((J3 32)) :: ((J3 33)) :: ((J3 34)) :: ((J3 35)) :: ((J3 36)) :: ((J3 37)) :: ((J3 38)) :: ((J3 39)) :: ((J3 40)) :: ((J3 41)) :: ((J3 42)) :: ((J3 43)) :: ((J3 44)) :: ((J3 45)) :: ((J3 46)) :: ((J3 47)) :: ((J3 48)) :: ((J3 49)) :: ((J3 50)) :: ((J3 51)) :: ((J3 52)) :: ((J3 53)) :: ((J3 54)) :: ((J3 55)) :: ((J3 56)) :: ((J3 57)) :: ((J3 58)) :: ((J3 59)) :: ((J3 60)) :: ((J3 61)) :: ((J3 62)) :: ((J3 63)) :: ((J3 64)) :: ((J3 65)) :: ((J3 66)) :: ((J3 67)) :: ((J3 68)) :: ((J3 69)) :: ((J3 70)) :: (.bool m) :: (.int .i64 a_) :: (.int .i64 n) :: (.bool true) :: ((J40 75)) :: ((J40 76)) :: (.int .i64 b_) :: (.int .i64 n) :: (.bool true) :: ((J44 80)) :: ((J44 81)) :: (.int .i64 c_) :: (.int .i64 n) :: (.bool true) :: (.int .i64 c_) :: (.int .i64 (c_ + 1)) :: (.slice (some ⟨g52, 0, none⟩) ps.length c5) :: (.int .i64 a_) :: (.pointer (some ⟨g52, a_.toNat, none⟩)) :: (.slice (some ⟨g60, 0, none⟩) le53.length ce53) :: (.int .i64 b_) :: (.pointer (some ((⟨g60, 0, none⟩ : Addr).add b_.toNat))) :: (.int .i64 (rdI le53 b_)) :: (.bool true) :: (.bool true) :: (.slice (some ⟨g52, 0, none⟩) ps.length c5) :: (.int .i64 b_) :: (.pointer (some ⟨g52, b_.toNat, none⟩)) :: (.slice (some ad57) le56.length ce56) :: (.int .i64 c_) :: (.pointer (some (ad57.add c_.toNat))) :: (.int .i64 (rdI le56 c_)) :: (.bool true) :: (.bool true) :: (.bool true) :: (.slice (some ⟨g52, 0, none⟩) ps.length c5) :: (.int .i64 a_) :: (.pointer (some ⟨g52, a_.toNat, none⟩)) :: (.slice (some ⟨g60, 0, none⟩) le53.length ce53) :: (.int .i64 c_) :: (.pointer (some ((⟨g60, 0, none⟩ : Addr).add c_.toNat))) :: (.int .i64 (rdI le53 c_)) :: (.bool true) :: (.bool true) :: (.slice (some ⟨g52, 0, none⟩) ps.length c5) :: (.int .i64 a_) :: (.pointer (some ⟨g52, a_.toNat, none⟩)) :: (.slice (some ⟨g60, 0, none⟩) le53.length ce53) :: (.int .i64 c_) :: (.pointer (some ⟨g60, c_.toNat, none⟩)) :: undef :: []) k_ undef), (c_ + 1), true, (setV qs3 a_ c_), congrArg Fr (by kernel_rfl), rfl, by omega, by omega, (invM_set hI3 a_0 (by omega) b_0 (by omega) c_0 (by omega) hvab hvbc), (pr_yes hP3 hI3 a_0 (by omega) c_0 (by omega) hvac _ _), HS⟩
                · skip
                  refine ql (.bool false) (by kernel_rfl) (R_beq (b := (rdI le53 c_ == (0 : Int))) (by kernel_rfl) (beq_f (hc59))) ?_
                  refine ql (.bool false) (by kernel_rfl) (by kernel_rfl) ?_
                  refine wpList_nil ?_
                  refine x_then ?_
                  refine wp_cond_false (by kernel_rfl) ?_
                  refine wp_skip ?_
                  refine x_inb ?_
                  refine x_then ?_
                  refine wp_region_lit ?_
                  refine ql (.int .i64 c_) (by kernel_rfl) (by kernel_rfl) ?_
                  refine ql (.int .i64 (c_ + 1)) (by kernel_rfl) (R_int (by kernel_rfl) (w64 (by omega))) ?_
                  refine ql (.int .i64 (c_ + 1)) (by kernel_rfl) (by kernel_rfl) ?_
                  refine wpList_nil ?_
                  refine x_then ?_
                  exact ⟨(n - (c_ + 1)).toNat, by omega, (fun k_ : Nat => List.getD ((.int .i64 n) :: (.slice Al l.length cl) :: undef :: undef :: (.slice none 0 0) :: (.slice (some ⟨g52, 0, none⟩) ps.length c5) :: (.int .i64 a) :: ((J3 7)) :: ((J3 8)) :: ((J3 9)) :: ((J3 10)) :: (.bool m3) :: (.int .i64 a_) :: (.int .i64 b_) :: (.int .i64 (c_ + 1)) :: (.slice (some ⟨g1, 0, none⟩) 0 0) :: (.int .i64 n) :: (.bool false) :: (.bool false) :: (.int .i64 n) :: (.bool false) :: (.bool false) :: undef :: (.int .i64 a) :: (.int .i64 n) :: (.bool false) :: ((J3 26)) :: ((J3 27)) :: ((J3 28)) :: ((J3 29)) :: ((J3 30)) :: ((J3 31)) :: ((J3 32)) :: ((J3 33)) :: ((J3 34)) :: ((J3 35)) :: ((J3 36)) :: ((J3 37)) :: ((J3 38)) :: ((J3 39)) :: ((J3 40)) :: ((J3 41)) :: ((J3 42)) :: ((J3 43)) :: ((J3 44)) :: ((J3 45)) :: ((J3 46)) :: ((J3 47)) :: ((J3 48)) :: ((J3 49)) :: ((J3 50)) :: ((J3 51)) :: ((J3 52)) :: ((J3 53)) :: ((J3 54)) :: ((J3 55)) :: ((J3 56)) :: ((J3 57)) :: ((J3 58)) :: ((J3 59)) :: ((J3 60)) :: ((J3 61)) :: ((J3 62)) :: ((J3 63)) :: ((J3 64)) :: ((J3 65)) :: ((J3 66)) :: ((J3 67)) :: ((J3 68)) :: ((J3 69)) :: ((J3 70)) :: (.bool m) :: (.int .i64 a_) :: (.int .i64 n) :: (.bool true) :: ((J40 75)) :: ((J40 76)) :: (.int .i64 b_) :: (.int .i64 n) :: (.bool true) :: ((J44 80)) :: ((J44 81)) :: (.int .i64 c_) :: (.int .i64 n) :: (.bool true) :: (.int .i64 c_) :: (.int .i64 (c_ + 1)) :: (.slice (some ⟨g52, 0, none⟩) ps.length c5) :: (.int .i64 a_) :: (.pointer (some ⟨g52, a_.toNat, none⟩)) :: (.slice (some ad54) le53.length ce53) :: (.int .i64 b_) :: (.pointer (some (ad54.add b_.toNat))) :: (.int .i64 (rdI le53 b_)) :: (.bool true) :: (.bool true) :: (.slice (some ⟨g52, 0, none⟩) ps.length c5) :: (.int .i64 b_) :: (.pointer (some ⟨g52, b_.toNat, none⟩)) :: (.slice (some ad57) le56.length ce56) :: (.int .i64 c_) :: (.pointer (some (ad57.add c_.toNat))) :: (.int .i64 (rdI le56 c_)) :: (.bool true) :: (.bool true) :: (.bool true) :: (.slice (some ⟨g52, 0, none⟩) ps.length c5) :: (.int .i64 a_) :: (.pointer (some ⟨g52, a_.toNat, none⟩)) :: (.slice (some ad54) le53.length ce53) :: (.int .i64 c_) :: (.pointer (some (ad54.add c_.toNat))) :: (.int .i64 (rdI le53 c_)) :: (.bool false) :: (.bool false) :: ((J48 115)) :: ((J48 116)) :: ((J48 117)) :: ((J48 118)) :: ((J48 119)) :: ((J48 120)) :: undef :: []) k_ undef), (c_ + 1), m3, qs3, congrArg Fr (by kernel_rfl), rfl, by omega, by omega, hI3, (pr_no hP3 (fun h1_ h2_ => hbt.resolve_left (by unfold vl; rw [he53]; exact hc59))), HS⟩
              · skip
                refine ql (.bool false) (by kernel_rfl) (R_beq (b := (rdI le56 c_ == (1 : Int))) (by kernel_rfl) (beq_f (hc58))) ?_
                refine ql (.bool false) (by kernel_rfl) (by kernel_rfl) ?_
                refine ql (.bool false) (by kernel_rfl) (by kernel_rfl) ?_
                refine qln (by kernel_rfl) ?_
                refine qln (by kernel_rfl) ?_
                refine qln (by kernel_rfl) ?_
                refine qln (by kernel_rfl) ?_
                refine qln (by kernel_rfl) ?_
                refine qln (by kernel_rfl) ?_
                refine qln (by kernel_rfl) ?_
                refine qln (by kernel_rfl) ?_
                refine ql (.bool false) (by kernel_rfl) (by kernel_rfl) ?_
                refine wpList_nil ?_
                refine x_then ?_
                refine wp_cond_false (by kernel_rfl) ?_
                refine wp_skip ?_
                refine x_inb ?_
                refine x_then ?_
                refine wp_region_lit ?_
                refine ql (.int .i64 c_) (by kernel_rfl) (by kernel_rfl) ?_
                refine ql (.int .i64 (c_ + 1)) (by kernel_rfl) (R_int (by kernel_rfl) (w64 (by omega))) ?_
                refine ql (.int .i64 (c_ + 1)) (by kernel_rfl) (by kernel_rfl) ?_
                refine wpList_nil ?_
                refine x_then ?_
                exact ⟨(n - (c_ + 1)).toNat, by omega, (fun k_ : Nat => List.getD ((.int .i64 n) :: (.slice Al l.length cl) :: undef :: undef :: (.slice none 0 0) :: (.slice (some ⟨g52, 0, none⟩) ps.length c5) :: (.int .i64 a) :: ((J3 7)) :: ((J3 8)) :: ((J3 9)) :: ((J3 10)) :: (.bool m3) :: (.int .i64 a_) :: (.int .i64 b_) :: (.int .i64 (c_ + 1)) :: (.slice (some ⟨g1, 0, none⟩) 0 0) :: (.int .i64 n) :: (.bool false) :: (.bool false) :: (.int .i64 n) :: (.bool false) :: (.bool false) :: undef :: (.int .i64 a) :: (.int .i64 n) :: (.bool false) :: ((J3 26)) :: ((J3 27)) :: ((J3 28)) :: ((J3 29)) :: ((J3 30)) :: ((J3 31)) :: ((J3 32)) :: ((J3 33)) :: ((J3 34)) :: ((J3 35)) :: ((J3 36)) :: ((J3 37)) :: ((J3 38)) :: ((J3 39)) :: ((J3 40)) :: ((J3 41)) :: ((J3 42)) :: ((J3 43)) :: ((J3 44)) :: ((J3 45)) :: ((J3 46)) :: ((J3 47)) :: ((J3 48)) :: ((J3 49)) :: ((J3 50)) :: ((J3 51)) :: ((J3 52)) :: ((J3 53)) :: ((J3 54)) :: ((J3 55)) :: ((J3 56)) :: ((J3 57)) :: ((J3 58)) :: ((J3 59)) :: ((J3 60)) :: ((J3 61)) :: ((J3 62)) :: ((J3 63)) :: ((J3 64)) :: ((J3 65)) :: ((J3 66)) :: ((J3 67)) :: ((J3 68)) :: ((J3 69)) :: ((J3 70)) :: (.bool m) :: (.int .i64 a_) :: (.int .i64 n) :: (.bool true) :: ((J40 75)) :: ((J40 76)) :: (.int .i64 b_) :: (.int .i64 n) :: (.bool true) :: ((J44 80)) :: ((J44 81)) :: (.int .i64 c_) :: (.int .i64 n) :: (.bool true) :: (.int .i64 c_) :: (.int .i64 (c_ + 1)) :: (.slice (some ⟨g52, 0, none⟩) ps.length c5) :: (.int .i64 a_) :: (.pointer (some ⟨g52, a_.toNat, none⟩)) :: (.slice (some ad54) le53.length ce53) :: (.int .i64 b_) :: (.pointer (some (ad54.add b_.toNat))) :: (.int .i64 (rdI le53 b_)) :: (.bool true) :: (.bool true) :: (.slice (some ⟨g52, 0, none⟩) ps.length c5) :: (.int .i64 b_) :: (.pointer (some ⟨g52, b_.toNat, none⟩)) :: (.slice (some ad57) le56.length ce56) :: (.int .i64 c_) :: (.pointer (some (ad57.add c_.toNat))) :: (.int .i64 (rdI le56 c_)) :: (.bool false) :: (.bool false) :: (.bool false) :: undef :: undef :: undef :: undef :: undef :: undef :: undef :: undef :: (.bool false) :: ((J48 115)) :: ((J48 116)) :: ((J48 117)) :: ((J48 118)) :: ((J48 119)) :: ((J48 120)) :: undef :: []) k_ undef), (c_ + 1), m3, qs3, congrArg Fr (by kernel_rfl), rfl, by omega, by omega, hI3, (pr_no hP3 (fun h1_ h2_ => absurd h2_ (by unfold vl; rw [he56]; exact hc58))), HS⟩
            · skip
              refine ql (.bool false) (by kernel_rfl) (R_beq (b := (rdI le53 b_ == (1 : Int))) (by kernel_rfl) (beq_f (hc55))) ?_
              refine ql (.bool false) (by kernel_rfl) (by kernel_rfl) ?_
              refine qln (by kernel_rfl) ?_
              refine qln (by kernel_rfl) ?_
              refine qln (by kernel_rfl) ?_
              refine qln (by kernel_rfl) ?_
              refine qln (by kernel_rfl) ?_
              refine qln (by kernel_rfl) ?_
              refine qln (by kernel_rfl) ?_
              refine qln (by kernel_rfl) ?_
              refine ql (.bool false) (by kernel_rfl) (by kernel_rfl) ?_
              refine ql (.bool false) (by kernel_rfl) (by kernel_rfl) ?_
              refine qln (by kernel_rfl) ?_
              refine qln (by kernel_rfl) ?_
              refine qln (by kernel_rfl) ?_
              refine qln (by kernel_rfl) ?_
              refine qln (by kernel_rfl) ?_
              refine qln (by kernel_rfl) ?_
              refine qln (by kernel_rfl) ?_
              refine qln (by kernel_rfl) ?_
              refine ql (.bool false) (by kernel_rfl) (by kernel_rfl) ?_
              refine wpList_nil ?_
              refine x_then ?_
              refine wp_cond_false (by kernel_rfl) ?_
              refine wp_skip ?_
              refine x_inb ?_
              refine x_then ?_
              refine wp_region_lit ?_
              refine ql (.int .i64 c_) (by kernel_rfl) (by kernel_rfl) ?_
              refine ql (.int .i64 (c_ + 1)) (by kernel_rfl) (R_int (by kernel_rfl) (w64 (by omega))) ?_
              refine ql (.int .i64 (c_ + 1)) (by kernel_rfl) (by kernel_rfl) ?_
              refine wpList_nil ?_
              refine x_then ?_
              exact ⟨(n - (c_ + 1)).toNat, by omega, (fun k_ : Nat => List.getD ((.int .i64 n) :: (.slice Al l.length cl) :: undef :: undef :: (.slice none 0 0) :: (.slice (some ⟨g52, 0, none⟩) ps.length c5) :: (.int .i64 a) :: ((J3 7)) :: ((J3 8)) :: ((J3 9)) :: ((J3 10)) :: (.bool m3) :: (.int .i64 a_) :: (.int .i64 b_) :: (.int .i64 (c_ + 1)) :: (.slice (some ⟨g1, 0, none⟩) 0 0) :: (.int .i64 n) :: (.bool false) :: (.bool false) :: (.int .i64 n) :: (.bool false) :: (.bool false) :: undef :: (.int .i64 a) :: (.int .i64 n) :: (.bool false) :: ((J3 26)) :: ((J3 27)) :: ((J3 28)) :: ((J3 29)) :: ((J3 30)) :: ((J3 31)) :: ((J3 32)) :: ((J3 33)) :: ((J3 34)) :: ((J3 35)) :: ((J3 36)) :: ((J3 37)) :: ((J3 38)) :: ((J3 39)) :: ((J3 40)) :: ((J3 41)) :: ((J3 42)) :: ((J3 43)) :: ((J3 44)) :: ((J3 45)) :: ((J3 46)) :: ((J3 47)) :: ((J3 48)) :: ((J3 49)) :: ((J3 50)) :: ((J3 51)) :: ((J3 52)) :: ((J3 53)) :: ((J3 54)) :: ((J3 55)) :: ((J3 56)) :: ((J3 57)) :: ((J3 58)) :: ((J3 59)) :: ((J3 60)) :: ((J3 61)) :: ((J3 62)) :: ((J3 63)) :: ((J3 64)) :: ((J3 65)) :: ((J3 66)) :: ((J3 67)) :: ((J3 68)) :: ((J3 69)) :: ((J3 70)) :: (.bool m) :: (.int .i64 a_) :: (.int .i64 n) :: (.bool true) :: ((J40 75)) :: ((J40 76)) :: (.int .i64 b_) :: (.int .i64 n) :: (.bool true) :: ((J44 80)) :: ((J44 81)) :: (.int .i64 c_) :: (.int .i64 n) :: (.bool true) :: (.int .i64 c_) :: (.int .i64 (c_ + 1)) :: (.slice (some ⟨g52, 0, none⟩) ps.length c5) :: (.int .i64 a_) :: (.pointer (some ⟨g52, a_.toNat, none⟩)) :: (.slice (some ad54) le53.length ce53) :: (.int .i64 b_) :: (.pointer (some (ad54.add b_.toNat))) :: (.int .i64 (rdI le53 b_)) :: (.bool false) :: (.bool false) :: undef :: undef :: undef :: undef :: undef :: undef :: undef :: undef :: (.bool false) :: (.bool false) :: undef :: undef :: undef :: undef :: undef :: undef :: undef :: undef :: (.bool false) :: ((J48 115)) :: ((J48 116)) :: ((J48 117)) :: ((J48 118)) :: ((J48 119)) :: ((J48 120)) :: undef :: []) k_ undef), (c_ + 1), m3, qs3, congrArg Fr (by kernel_rfl), rfl, by omega, by omega, hI3, (pr_no hP3 (fun h1_ h2_ => absurd h1_ (by unfold vl; rw [he53]; exact hc55))), HS⟩
          · skip
            refine ql (.bool false) (by kernel_rfl) (R_nbool (p := c_ < n) (by kernel_rfl) (hc51)) ?_
            refine wpList_nil ?_
            refine x_then ?_
            refine wp_cond_false (by kernel_rfl) ?_
            refine wp_exit ?_
            refine x_thenE ?_
            refine x_thenE ?_
            refine x_hit ?_
            refine x_inb ?_
            refine x_then ?_
            refine wp_region_lit ?_
            refine ql (.int .i64 b_) (by kernel_rfl) (by kernel_rfl) ?_
            refine ql (.int .i64 (b_ + 1)) (by kernel_rfl) (R_int (by kernel_rfl) (w64 (by omega))) ?_
            refine ql (.int .i64 (b_ + 1)) (by kernel_rfl) (by kernel_rfl) ?_
            refine wpList_nil ?_
            refine x_then ?_
            exact ⟨(n - (b_ + 1)).toNat, by omega, (fun k_ : Nat => List.getD ((.int .i64 n) :: (.slice Al l.length cl) :: undef :: undef :: (.slice none 0 0) :: (.slice A5 ps.length c5) :: (.int .i64 a) :: ((J3 7)) :: ((J3 8)) :: ((J3 9)) :: ((J3 10)) :: (.bool m3) :: (.int .i64 a_) :: (.int .i64 (b_ + 1)) :: (.int .i64 c_) :: (.slice (some ⟨g1, 0, none⟩) 0 0) :: (.int .i64 n) :: (.bool false) :: (.bool false) :: (.int .i64 n) :: (.bool false) :: (.bool false) :: undef :: (.int .i64 a) :: (.int .i64 n) :: (.bool false) :: ((J3 26)) :: ((J3 27)) :: ((J3 28)) :: ((J3 29)) :: ((J3 30)) :: ((J3 31)) :: ((J3 32)) :: ((J3 33)) :: ((J3 34)) :: ((J3 35)) :: ((J3 36)) :: ((J3 37)) :: ((J3 38)) :: ((J3 39)) :: ((J3 40)) :: ((J3 41)) :: ((J3 42)) :: ((J3 43)) :: ((J3 44)) :: ((J3 45)) :: ((J3 46)) :: ((J3 47)) :: ((J3 48)) :: ((J3 49)) :: ((J3 50)) :: ((J3 51)) :: ((J3 52)) :: ((J3 53)) :: ((J3 54)) :: ((J3 55)) :: ((J3 56)) :: ((J3 57)) :: ((J3 58)) :: ((J3 59)) :: ((J3 60)) :: ((J3 61)) :: ((J3 62)) :: ((J3 63)) :: ((J3 64)) :: ((J3 65)) :: ((J3 66)) :: ((J3 67)) :: ((J3 68)) :: ((J3 69)) :: ((J3 70)) :: (.bool m) :: (.int .i64 a_) :: (.int .i64 n) :: (.bool true) :: ((J40 75)) :: ((J40 76)) :: (.int .i64 b_) :: (.int .i64 n) :: (.bool true) :: (.int .i64 b_) :: (.int .i64 (b_ + 1)) :: (.int .i64 c_) :: (.int .i64 n) :: (.bool false) :: ((J48 85)) :: ((J48 86)) :: ((J48 87)) :: ((J48 88)) :: ((J48 89)) :: ((J48 90)) :: ((J48 91)) :: ((J48 92)) :: ((J48 93)) :: ((J48 94)) :: ((J48 95)) :: ((J48 96)) :: ((J48 97)) :: ((J48 98)) :: ((J48 99)) :: ((J48 100)) :: ((J48 101)) :: ((J48 102)) :: ((J48 103)) :: ((J48 104)) :: ((J48 105)) :: ((J48 106)) :: ((J48 107)) :: ((J48 108)) :: ((J48 109)) :: ((J48 110)) :: ((J48 111)) :: ((J48 112)) :: ((J48 113)) :: ((J48 114)) :: ((J48 115)) :: ((J48 116)) :: ((J48 117)) :: ((J48 118)) :: ((J48 119)) :: ((J48 120)) :: undef :: []) k_ undef), (b_ + 1), m3, qs3, congrArg Fr (by kernel_rfl), rfl, by omega, by omega, hI3, pr_c (by rw [show c_ = n by omega] at hP3; exact hP3), HS⟩
        · skip
          refine ql (.bool false) (by kernel_rfl) (R_nbool (p := b_ < n) (by kernel_rfl) (hc47)) ?_
          refine wpList_nil ?_
          refine x_then ?_
          refine wp_cond_false (by kernel_rfl) ?_
          refine wp_exit ?_
          refine x_thenE ?_
          refine x_thenE ?_
          refine x_hit ?_
          refine x_inb ?_
          refine x_then ?_
          refine wp_region_lit ?_
          refine ql (.int .i64 a_) (by kernel_rfl) (by kernel_rfl) ?_
          refine ql (.int .i64 (a_ + 1)) (by kernel_rfl) (R_int (by kernel_rfl) (w64 (by omega))) ?_
          refine ql (.int .i64 (a_ + 1)) (by kernel_rfl) (by kernel_rfl) ?_
          refine wpList_nil ?_
          refine x_then ?_
          exact ⟨(n - (a_ + 1)).toNat, by omega, (fun k_ : Nat => List.getD ((.int .i64 n) :: (.slice Al l.length cl) :: undef :: undef :: (.slice none 0 0) :: (.slice A5 ps.length c5) :: (.int .i64 a) :: ((J3 7)) :: ((J3 8)) :: ((J3 9)) :: ((J3 10)) :: (.bool m2) :: (.int .i64 (a_ + 1)) :: (.int .i64 b_) :: ((J44 14)) :: (.slice (some ⟨g1, 0, none⟩) 0 0) :: (.int .i64 n) :: (.bool false) :: (.bool false) :: (.int .i64 n) :: (.bool false) :: (.bool false) :: undef :: (.int .i64 a) :: (.int .i64 n) :: (.bool false) :: ((J3 26)) :: ((J3 27)) :: ((J3 28)) :: ((J3 29)) :: ((J3 30)) :: ((J3 31)) :: ((J3 32)) :: ((J3 33)) :: ((J3 34)) :: ((J3 35)) :: ((J3 36)) :: ((J3 37)) :: ((J3 38)) :: ((J3 39)) :: ((J3 40)) :: ((J3 41)) :: ((J3 42)) :: ((J3 43)) :: ((J3 44)) :: ((J3 45)) :: ((J3 46)) :: ((J3 47)) :: ((J3 48)) :: ((J3 49)) :: ((J3 50)) :: ((J3 51)) :: ((J3 52)) :: ((J3 53)) :: ((J3 54)) :: ((J3 55)) :: ((J3 56)) :: ((J3 57)) :: ((J3 58)) :: ((J3 59)) :: ((J3 60)) :: ((J3 61)) :: ((J3 62)) :: ((J3 63)) :: ((J3 64)) :: ((J3 65)) :: ((J3 66)) :: ((J3 67)) :: ((J3 68)) :: ((J3 69)) :: ((J3 70)) :: (.bool m) :: (.int .i64 a_) :: (.int .i64 n) :: (.bool true) :: (.int .i64 a_) :: (.int .i64 (a_ + 1)) :: (.int .i64 b_) :: (.int .i64 n) :: (.bool false) :: ((J44 80)) :: ((J44 81)) :: ((J44 82)) :: ((J44 83)) :: ((J44 84)) :: ((J44 85)) :: ((J44 86)) :: ((J44 87)) :: ((J44 88)) :: ((J44 89)) :: ((J44 90)) :: ((J44 91)) :: ((J44 92)) :: ((J44 93)) :: ((J44 94)) :: ((J44 95)) :: ((J44 96)) :: ((J44 97)) :: ((J44 98)) :: ((J44 99)) :: ((J44 100)) :: ((J44 101)) :: ((J44 102)) :: ((J44 103)) :: ((J44 104)) :: ((J44 105)) :: ((J44 106)) :: ((J44 107)) :: ((J44 108)) :: ((J44 109)) :: ((J44 110)) :: ((J44 111)) :: ((J44 112)) :: ((J44 113)) :: ((J44 114)) :: ((J44 115)) :: ((J44 116)) :: ((J44 117)) :: ((J44 118)) :: ((J44 119)) :: ((J44 120)) :: undef :: []) k_ undef), (a_ + 1), m2, qs2, congrArg Fr (by kernel_rfl), rfl, by omega, by omega, hI2, pr_b (by rw [show b_ = n by omega] at hP2; exact hP2), HS⟩
      · skip
        refine ql (.bool false) (by kernel_rfl) (R_nbool (p := a_ < n) (by kernel_rfl) (hc43)) ?_
        refine wpList_nil ?_
        refine x_then ?_
        refine wp_cond_false (by kernel_rfl) ?_
        refine wp_exit ?_
        refine x_thenE ?_
        refine x_thenE ?_
        refine x_hit ?_
        refine x_inb ?_
        have hmz := pr_meas (m := m) hP1 (by assumption)
        refine x_then ?_
        exact ⟨2 * zer qs1 + (if m1 then 1 else 0), by omega, (fun k_ : Nat => List.getD ((.int .i64 n) :: (.slice Al l.length cl) :: undef :: undef :: (.slice none 0 0) :: (.slice A5 ps.length c5) :: (.int .i64 a) :: ((J3 7)) :: ((J3 8)) :: ((J3 9)) :: ((J3 10)) :: (.bool m1) :: (.int .i64 a_) :: ((J40 13)) :: ((J40 14)) :: (.slice (some ⟨g1, 0, none⟩) 0 0) :: (.int .i64 n) :: (.bool false) :: (.bool false) :: (.int .i64 n) :: (.bool false) :: (.bool false) :: undef :: (.int .i64 a) :: (.int .i64 n) :: (.bool false) :: ((J3 26)) :: ((J3 27)) :: ((J3 28)) :: ((J3 29)) :: ((J3 30)) :: ((J3 31)) :: ((J3 32)) :: ((J3 33)) :: ((J3 34)) :: ((J3 35)) :: ((J3 36)) :: ((J3 37)) :: ((J3 38)) :: ((J3 39)) :: ((J3 40)) :: ((J3 41)) :: ((J3 42)) :: ((J3 43)) :: ((J3 44)) :: ((J3 45)) :: ((J3 46)) :: ((J3 47)) :: ((J3 48)) :: ((J3 49)) :: ((J3 50)) :: ((J3 51)) :: ((J3 52)) :: ((J3 53)) :: ((J3 54)) :: ((J3 55)) :: ((J3 56)) :: ((J3 57)) :: ((J3 58)) :: ((J3 59)) :: ((J3 60)) :: ((J3 61)) :: ((J3 62)) :: ((J3 63)) :: ((J3 64)) :: ((J3 65)) :: ((J3 66)) :: ((J3 67)) :: ((J3 68)) :: ((J3 69)) :: ((J3 70)) :: (.bool m) :: (.int .i64 a_) :: (.int .i64 n) :: (.bool false) :: ((J40 75)) :: ((J40 76)) :: ((J40 77)) :: ((J40 78)) :: ((J40 79)) :: ((J40 80)) :: ((J40 81)) :: ((J40 82)) :: ((J40 83)) :: ((J40 84)) :: ((J40 85)) :: ((J40 86)) :: ((J40 87)) :: ((J40 88)) :: ((J40 89)) :: ((J40 90)) :: ((J40 91)) :: ((J40 92)) :: ((J40 93)) :: ((J40 94)) :: ((J40 95)) :: ((J40 96)) :: ((J40 97)) :: ((J40 98)) :: ((J40 99)) :: ((J40 100)) :: ((J40 101)) :: ((J40 102)) :: ((J40 103)) :: ((J40 104)) :: ((J40 105)) :: ((J40 106)) :: ((J40 107)) :: ((J40 108)) :: ((J40 109)) :: ((J40 110)) :: ((J40 111)) :: ((J40 112)) :: ((J40 113)) :: ((J40 114)) :: ((J40 115)) :: ((J40 116)) :: ((J40 117)) :: ((J40 118)) :: ((J40 119)) :: ((J40 120)) :: undef :: []) k_ undef), m1, qs1, congrArg Fr (by kernel_rfl), rfl, hI1, (fun hm_ => by subst hm_; exact rm_end hI1 (by rw [show n = a_ by omega]; rw [show a_ = n by omega] at hP1 ⊢; exact hP1)), HS⟩
    · skip
      refine wp_cond_false (kb_eq (b := m) (by kernel_rfl) (Bool.eq_false_iff.2 hc39)) ?_
      refine wp_exit ?_
      refine x_thenE ?_
      refine x_thenE ?_
      refine x_hit ?_
      refine x_then ?_
      refine wp_seq ?_
      refine wp_region_lit ?_
      refine ql (.slice A5 ps.length c5) (by kernel_rfl) (by kernel_rfl) ?_
      refine ql (.slice A5 ps.length c5) (by kernel_rfl) (by kernel_rfl) ?_
      refine wpList_nil ?_
      refine x_then ?_
      refine wp_ret ?_
      refine ret_ (.slice A5 ps.length c5) (by kernel_rfl) ?_
      have hrm := hm (Bool.eq_false_iff.2 (by assumption))
      exact ⟨A5, c5, qs, by rw [show ps.length = qs.length by have := hI.len; omega], by rw [show ps.length = qs.length by have := hI.len; omega] at HS; exact HS, hrm⟩

open Go.Shelf
set_option maxRecDepth 100000 in
set_option maxHeartbeats 1000000 in
theorem r31has (A : Option Addr) (c : Nat) (ps : List Pp) (n : Int) (l : List (Int × Int)) (a b : Int) (W : World) (hr : Rd W A (cp ps)) (hpo : ∀ p ∈ ps, Rd W p.1.1 (ci .i64 p.2)) (hrm : RM n l ps) (hn : n ≤ 12) : Calls Try.prog 37 #[.slice A ps.length c, .int .i64 a, .int .i64 b] W fun e W' => e = .returned (.bool (knB n l a b)) ∧ St W (owns []) W' [] := by
  have HS : St W (owns []) W [] := St.start W _
  have hpl := hrm.len
  refine calls_enter [.slice A ps.length c, .int .i64 a, .int .i64 b, undef, undef, undef, undef, undef, undef, undef, undef, undef, undef, undef, undef, undef, undef, undef, undef, undef, undef, undef, undef, undef, undef, undef, undef, undef, undef, undef, undef, undef, undef, undef, undef] Try.func37 rfl (by kernel_rfl) ?_
  refine wp_seq ?_
  refine wp_region_lit ?_
  refine ql (.bool false) (by kernel_rfl) (by kernel_rfl) ?_
  refine wpList_nil ?_
  refine x_then ?_
  refine wp_seq ?_
  refine wp_region_lit ?_
  refine ql (.int .i64 a) (by kernel_rfl) (by kernel_rfl) ?_
  by_cases hc1 : a ≥ (0 : Int)
  · skip
    refine ql (.bool true) (by kernel_rfl) (R_bool (p := a ≥ (0 : Int)) (by kernel_rfl) (hc1)) ?_
    refine ql (.bool true) (by kernel_rfl) (by kernel_rfl) ?_
    refine ql (.int .i64 a) (by kernel_rfl) (by kernel_rfl) ?_
    refine ql (.slice A ps.length c) (by kernel_rfl) (by kernel_rfl) ?_
    refine ql (.int .i64 (ps.length : Int)) (by kernel_rfl) (by kernel_rfl) ?_
    by_cases hc2 : a < (ps.length : Int)
    · skip
      refine ql (.bool true) (by kernel_rfl) (R_bool (p := a < (ps.length : Int)) (by kernel_rfl) (hc2)) ?_
      refine ql (.bool true) (by kernel_rfl) (by kernel_rfl) ?_
      refine ql (.bool true) (by kernel_rfl) (by kernel_rfl) ?_
      refine ql (.int .i64 b) (by kernel_rfl) (by kernel_rfl) ?_
      by_cases hc3 : b ≥ (0 : Int)
      · skip
        refine ql (.bool true) (by kernel_rfl) (R_bool (p := b ≥ (0 : Int)) (by kernel_rfl) (hc3)) ?_
        refine ql (.bool true) (by kernel_rfl) (by kernel_rfl) ?_
        refine ql (.bool true) (by kernel_rfl) (by kernel_rfl) ?_
        refine ql (.int .i64 b) (by kernel_rfl) (by kernel_rfl) ?_
        refine ql (.slice A ps.length c) (by kernel_rfl) (by kernel_rfl) ?_
        refine ql (.int .i64 (ps.length : Int)) (by kernel_rfl) (by kernel_rfl) ?_
        by_cases hc4 : b < (ps.length : Int)
        · skip
          refine ql (.bool true) (by kernel_rfl) (R_bool (p := b < (ps.length : Int)) (by kernel_rfl) (hc4)) ?_
          refine ql (.bool true) (by kernel_rfl) (by kernel_rfl) ?_
          refine ql (.bool true) (by kernel_rfl) (by kernel_rfl) ?_
          refine ql (.slice A ps.length c) (by kernel_rfl) (by kernel_rfl) ?_
          refine ql (.int .i64 a) (by kernel_rfl) (by kernel_rfl) ?_
          obtain ⟨ad5, rfl⟩ := Rd.isSome_ hr (by rw [cp_len]; omega)
          refine ql (.pointer (some (ad5.add a.toNat))) (by kernel_rfl) (R_indexA1 (k := .i64) (p := ad5) (n := ps.length) (c := c) (i := a) (by kernel_rfl) (by kernel_rfl) Try.underlying59 (by kernel_rfl) (by omega) (by omega)) ?_
          obtain ⟨Ae6, ce6, le6, he6⟩ : ∃ A_ c_ l_, gx ps a = ((A_, c_), l_) := ⟨_, _, _, rfl⟩
          have he6m := gx_in (xs := ps) (i := a) (by omega) (by omega)
          rw [he6] at he6m
          have le6n : (le6.length : Int) = n := hrm.rl _ he6m
          refine ql (.slice Ae6 le6.length ce6) (by kernel_rfl) (R_load (p := ad5.add a.toNat) (by kernel_rfl) (by kernel_rfl) (by kernel_rfl) (HS.old0 (hr.at_ (cp_at (by omega) (by omega) he6)))) ?_
          refine ql (.int .i64 b) (by kernel_rfl) (by kernel_rfl) ?_
          obtain ⟨ad7, rfl⟩ := Rd.isSome_ ((hpo_at hpo he6m).old0 HS) (by rw [ci_len]; omega)
          refine ql (.pointer (some (ad7.add b.toNat))) (by kernel_rfl) (R_indexA1 (k := .i64) (p := ad7) (n := le6.length) (c := ce6) (i := b) (by kernel_rfl) (by kernel_rfl) Try.underlying22 (by kernel_rfl) (by omega) (by omega)) ?_
          refine ql (.int .i64 (rdI le6 b)) (by kernel_rfl) (R_load (p := ad7.add b.toNat) (by kernel_rfl) (by kernel_rfl) (by kernel_rfl) (((hpo_at hpo he6m).old0 HS).at_ (ci_rd (i := b) (by omega) (by omega)))) ?_
          by_cases hc8 : (rdI le6 b) = (1 : Int)
          · skip
            refine ql (.bool true) (by kernel_rfl) (R_beq (b := (rdI le6 b == (1 : Int))) (by kernel_rfl) (beq_t (hc8))) ?_
            refine ql (.bool true) (by kernel_rfl) (by kernel_rfl) ?_
            refine ql (.bool true) (by kernel_rfl) (by kernel_rfl) ?_
            refine wpList_nil ?_
            refine x_then ?_
            refine wp_ret ?_
            refine ret_ (.bool true) (by kernel_rfl) ?_
            exact ⟨by rw [rm_t hrm (by omega) (by omega) (by omega) (by omega) (by unfold vl; rw [he6]; exact hc8)], HS⟩
          · skip
            refine ql (.bool false) (by kernel_rfl) (R_beq (b := (rdI le6 b == (1 : Int))) (by kernel_rfl) (beq_f (hc8))) ?_
            refine ql (.bool false) (by kernel_rfl) (by kernel_rfl) ?_
            refine ql (.bool false) (by kernel_rfl) (by kernel_rfl) ?_
            refine wpList_nil ?_
            refine x_then ?_
            refine wp_ret ?_
            refine ret_ (.bool false) (by kernel_rfl) ?_
            exact ⟨by rw [rm_f hrm (by omega) (by omega) (by omega) (by omega) (by unfold vl; rw [he6]; exact hc8)], HS⟩
        · skip
          refine ql (.bool false) (by kernel_rfl) (R_nbool (p := b < (ps.length : Int)) (by kernel_rfl) (hc4)) ?_
          refine ql (.bool false) (by kernel_rfl) (by kernel_rfl) ?_
          refine ql (.bool false) (by kernel_rfl) (by kernel_rfl) ?_
          refine qln (by kernel_rfl) ?_
          refine qln (by kernel_rfl) ?_
          refine qln (by kernel_rfl) ?_
          refine qln (by kernel_rfl) ?_
          refine qln (by kernel_rfl) ?_
          refine qln (by kernel_rfl) ?_
          refine qln (by kernel_rfl) ?_
          refine qln (by kernel_rfl) ?_
          refine ql (.bool false) (by kernel_rfl) (by kernel_rfl) ?_
          refine ql (.bool false) (by kernel_rfl) (by kernel_rfl) ?_
          refine wpList_nil ?_
          refine x_then ?_
          refine wp_ret ?_
          refine ret_ (.bool false) (by kernel_rfl) ?_
          exact ⟨by rw [knB_out (by omega)], HS⟩
      · skip
        refine ql (.bool false) (by kernel_rfl) (R_nbool (p := b ≥ (0 : Int)) (by kernel_rfl) (hc3)) ?_
        refine ql (.bool false) (by kernel_rfl) (by kernel_rfl) ?_
        refine ql (.bool false) (by kernel_rfl) (by kernel_rfl) ?_
        refine qln (by kernel_rfl) ?_
        refine qln (by kernel_rfl) ?_
        refine qln (by kernel_rfl) ?_
        refine qln (by kernel_rfl) ?_
        refine ql (.bool false) (by kernel_rfl) (by kernel_rfl) ?_
        refine ql (.bool false) (by kernel_rfl) (by kernel_rfl) ?_
        refine qln (by kernel_rfl) ?_
        refine qln (by kernel_rfl) ?_
        refine qln (by kernel_rfl) ?_
        refine qln (by kernel_rfl) ?_
        refine qln (by kernel_rfl) ?_
        refine qln (by kernel_rfl) ?_
        refine qln (by kernel_rfl) ?_
        refine qln (by kernel_rfl) ?_
        refine ql (.bool false) (by kernel_rfl) (by kernel_rfl) ?_
        refine ql (.bool false) (by kernel_rfl) (by kernel_rfl) ?_
        refine wpList_nil ?_
        refine x_then ?_
        refine wp_ret ?_
        refine ret_ (.bool false) (by kernel_rfl) ?_
        exact ⟨by rw [knB_out (by omega)], HS⟩
    · skip
      refine ql (.bool false) (by kernel_rfl) (R_nbool (p := a < (ps.length : Int)) (by kernel_rfl) (hc2)) ?_
      refine ql (.bool false) (by kernel_rfl) (by kernel_rfl) ?_
      refine ql (.bool false) (by kernel_rfl) (by kernel_rfl) ?_
      refine qln (by kernel_rfl) ?_
      refine qln (by kernel_rfl) ?_
      refine ql (.bool false) (by kernel_rfl) (by kernel_rfl) ?_
      refine ql (.bool false) (by kernel_rfl) (by kernel_rfl) ?_
      refine qln (by kernel_rfl) ?_
      refine qln (by kernel_rfl) ?_
      refine qln (by kernel_rfl) ?_
      refine qln (by kernel_rfl) ?_
      refine ql (.bool false) (by kernel_rfl) (by kernel_rfl) ?_
      refine ql (.bool false) (by kernel_rfl) (by kernel_rfl) ?_
      refine qln (by kernel_rfl) ?_
      refine qln (by kernel_rfl) ?_
      refine qln (by kernel_rfl) ?_
      refine qln (by kernel_rfl) ?_
      refine qln (by kernel_rfl) ?_
      refine qln (by kernel_rfl) ?_
      refine qln (by kernel_rfl) ?_
      refine qln (by kernel_rfl) ?_
      refine ql (.bool false) (by kernel_rfl) (by kernel_rfl) ?_
      refine ql (.bool false) (by kernel_rfl) (by kernel_rfl) ?_
      refine wpList_nil ?_
      refine x_then ?_
      refine wp_ret ?_
      refine ret_ (.bool false) (by kernel_rfl) ?_
      exact ⟨by rw [knB_out (by omega)], HS⟩
  · skip
    refine ql (.bool false) (by kernel_rfl) (R_nbool (p := a ≥ (0 : Int)) (by kernel_rfl) (hc1)) ?_
    refine ql (.bool false) (by kernel_rfl) (by kernel_rfl) ?_
    refine qln (by kernel_rfl) ?_
    refine qln (by kernel_rfl) ?_
    refine qln (by kernel_rfl) ?_
    refine qln (by kernel_rfl) ?_
    refine ql (.bool false) (by kernel_rfl) (by kernel_rfl) ?_
    refine ql (.bool false) (by kernel_rfl) (by kernel_rfl) ?_
    refine qln (by kernel_rfl) ?_
    refine qln (by kernel_rfl) ?_
    refine ql (.bool false) (by kernel_rfl) (by kernel_rfl) ?_
    refine ql (.bool false) (by kernel_rfl) (by kernel_rfl) ?_
    refine qln (by kernel_rfl) ?_
    refine qln (by kernel_rfl) ?_
    refine qln (by kernel_rfl) ?_
    refine qln (by kernel_rfl) ?_
    refine ql (.bool false) (by kernel_rfl) (by kernel_rfl) ?_
    refine ql (.bool false) (by kernel_rfl) (by kernel_rfl) ?_
    refine qln (by kernel_rfl) ?_
    refine qln (by kernel_rfl) ?_
    refine qln (by kernel_rfl) ?_
    refine qln (by kernel_rfl) ?_
    refine qln (by kernel_rfl) ?_
    refine qln (by kernel_rfl) ?_
    refine qln (by kernel_rfl) ?_
    refine qln (by kernel_rfl) ?_
    refine ql (.bool false) (by kernel_rfl) (by kernel_rfl) ?_
    refine ql (.bool false) (by kernel_rfl) (by kernel_rfl) ?_
    refine wpList_nil ?_
    refine x_then ?_
    refine wp_ret ?_
    refine ret_ (.bool false) (by kernel_rfl) ?_
    exact ⟨by rw [knB_out (by omega)], HS⟩

set_option maxRecDepth 100000 in
set_option maxHeartbeats 1000000 in
theorem r31all (A : Option Addr) (c : Nat) (ps : List Pp) (n : Int) (l : List (Int × Int)) (Am : Option Addr) (cm : Nat) (m : List (Int × Int)) (W : World) (hr : Rd W A (cp ps)) (hpo : ∀ p ∈ ps, Rd W p.1.1 (ci .i64 p.2)) (hrm : RM n l ps) (hn : n ≤ 12) (hra : Rd W Am (cf prC m)) (hlm : m.length ≤ 10000) : Calls Try.prog 39 #[.slice A ps.length c, .slice Am m.length cm] W fun e W' => e = .returned (.bool (allK n l m)) ∧ St W (owns []) W' [] := by
  have HS : St W (owns []) W [] := St.start W _
  have hpl := hrm.len
  refine calls_enter [.slice A ps.length c, .slice Am m.length cm, undef, undef, undef, undef, undef, undef, undef, undef, undef, undef, undef, undef, undef, undef, undef, undef, undef, undef, undef, undef, undef, undef, undef] Try.func39 rfl (by kernel_rfl) ?_
  refine wp_seq ?_
  refine wp_region_lit ?_
  refine ql (.bool false) (by kernel_rfl) (by kernel_rfl) ?_
  refine wpList_nil ?_
  refine x_then ?_
  refine wp_seq ?_
  refine wp_seq ?_
  refine wp_region_lit ?_
  refine ql (.int .i64 0) (by kernel_rfl) (by kernel_rfl) ?_
  refine wpList_nil ?_
  refine x_then ?_
  refine wp_block ?_
  refine wp_loop_ghost (fun kq a' w' => ∃ (J1 : Nat → Value) (k : Int) , a' = Fr [.slice A ps.length c, .slice Am m.length cm, undef, undef, (J1 4), .int .i64 k, (J1 6), (J1 7), (J1 8), (J1 9), (J1 10), (J1 11), (J1 12), (J1 13), (J1 14), (J1 15), (J1 16), (J1 17), (J1 18), (J1 19), (J1 20), (J1 21), (J1 22), (J1 23), (J1 24)] ∧ kq = (m.length - (k).toNat) ∧ (0 ≤ k) ∧ (k ≤ m.length) ∧ (NoP (fun b : Int × Int => !knB n l b.1 b.2) m k) ∧ St W (owns []) w' []) (m.length - ((0 : Int)).toNat) ⟨(fun k_ : Nat => List.getD [.slice A ps.length c, .slice Am m.length cm, undef, undef, .bool false, .int .i64 0, undef, undef, undef, undef, undef, undef, undef, undef, undef, undef, undef, undef, undef, undef, undef, undef, undef, undef, undef] k_ undef), (0 : Int), congrArg Fr (by kernel_rfl), rfl, by omega, by omega, noP_0 _ m, HS⟩ ?_
  clear HS
  intro kq2 a' W3 hrel
  obtain ⟨J1, k, rfl, hk, k0, k1, hN, HS⟩ := hrel
  refine wp_seq ?_
  refine wp_seq ?_
  refine wp_region_lit ?_
  refine ql (.int .i64 k) (by kernel_rfl) (by kernel_rfl) ?_
  refine ql (.slice Am m.length cm) (by kernel_rfl) (by kernel_rfl) ?_
  refine ql (.int .i64 (m.length : Int)) (by kernel_rfl) (by kernel_rfl) ?_
  by_cases hc4 : k < (m.length : Int)
  · skip
    refine ql (.bool true) (by kernel_rfl) (R_bool (p := k < (m.length : Int)) (by kernel_rfl) (hc4)) ?_
    refine wpList_nil ?_
    refine x_then ?_
    refine wp_cond_true (by kernel_rfl) ?_
    refine wp_skip ?_
    refine x_then ?_
    refine wp_seq ?_
    refine wp_block ?_
    refine wp_seq ?_
    refine rg_still HS 11 (by kernel_rfl) (by kernel_rfl) ?_
    intro W5 H_ HK_
    simp only [List.take_succ_cons, List.take_zero, List.drop_succ_cons, List.drop_zero]
    replace HS : St W (owns []) W5 [] := H_
    clear H_
    clear HK_
    refine qs (.slice A ps.length c) (by kernel_rfl) (by kernel_rfl) ?_
    refine qs (.slice Am m.length cm) (by kernel_rfl) (by kernel_rfl) ?_
    refine qs (.int .i64 k) (by kernel_rfl) (by kernel_rfl) ?_
    obtain ⟨ad6, rfl⟩ := Rd.isSome_ hra (by rw [cf_len (z := 2) (fun _ => rfl)]; omega)
    refine qs (.pointer (some (ad6.add (k.toNat * 2)))) (by kernel_rfl) (R_indexA (k := .i64) (p := ad6) (n := m.length) (c := cm) (i := k) (by kernel_rfl) (by kernel_rfl) Try.underlying34 (by kernel_rfl) (by omega) (by omega)) ?_
    refine qs (.pointer (some (ad6.add (k.toNat * 2)))) (by kernel_rfl) (by kernel_rfl) ?_
    refine qs (.int .i64 ((gx m k).1)) (by kernel_rfl) (R_load (p := ad6.add (k.toNat * 2)) (by kernel_rfl) (by kernel_rfl) (by kernel_rfl) (HS.old0 (Rd.elem0 (f := prC) (fun _ => rfl) hra (gx_eq (by omega) (by omega)) rfl))) ?_
    refine qs (.slice (some ad6) m.length cm) (by kernel_rfl) (by kernel_rfl) ?_
    refine qs (.int .i64 k) (by kernel_rfl) (by kernel_rfl) ?_
    refine qs (.pointer (some (ad6.add (k.toNat * 2)))) (by kernel_rfl) (R_indexA (k := .i64) (p := ad6) (n := m.length) (c := cm) (i := k) (by kernel_rfl) (by kernel_rfl) Try.underlying34 (by kernel_rfl) (by omega) (by omega)) ?_
    refine qs (.pointer (some ((ad6.add (k.toNat * 2)).add 1))) (by kernel_rfl) (by kernel_rfl) ?_
    refine qs (.int .i64 ((gx m k).2)) (by kernel_rfl) (R_load (p := (ad6.add (k.toNat * 2)).add 1) (by kernel_rfl) (by kernel_rfl) (by kernel_rfl) (HS.old0 (Rd.elem1 (k := 1) (f := prC) (fun _ => rfl) hra (gx_eq (by omega) (by omega)) rfl))) ?_
    refine wpStill_nil ?_
    refine qc (f := 37) (args := #[.slice A ps.length c, .int .i64 ((gx m k).1), .int .i64 ((gx m k).2)]) (by kernel_rfl) (R_call #[.slice A ps.length c, .int .i64 ((gx m k).1), .int .i64 ((gx m k).2)] Try.func37 (by kernel_rfl) (by kernel_rfl) (by kernel_rfl)) ?_
    by_cases hkn_gxmk1_gxmk2 : knB n l ((gx m k).1) ((gx m k).2) = true
    · skip
      refine (r31has A c ps n l ((gx m k).1) ((gx m k).2) _ (hr.old0 HS) (fun p hp => (hpo p hp).old0 HS) hrm hn).mono ?_
      rintro e W7 ⟨rfl, H_⟩
      rw [hkn_gxmk1_gxmk2]
      refine ⟨_, rfl, ?_⟩
      replace HS : St W (owns []) W7 [] := HS.join (F := []) (G := []) H_
      clear H_
      refine ql (.bool false) (by kernel_rfl) (by kernel_rfl) ?_
      refine wpList_nil ?_
      refine x_then ?_
      refine wp_cond_false (by kernel_rfl) ?_
      refine wp_skip ?_
      refine x_inb ?_
      refine x_then ?_
      refine wp_region_lit ?_
      refine ql (.int .i64 k) (by kernel_rfl) (by kernel_rfl) ?_
      refine ql (.int .i64 (k + 1)) (by kernel_rfl) (R_int (by kernel_rfl) (w64 (by omega))) ?_
      refine ql (.int .i64 (k + 1)) (by kernel_rfl) (by kernel_rfl) ?_
      refine wpList_nil ?_
      refine x_then ?_
      exact ⟨m.length - ((k + 1)).toNat, by omega, (fun k_ : Nat => List.getD [.slice A ps.length c, .slice (some ad6) m.length cm, undef, undef, (J1 4), .int .i64 (k + 1), .int .i64 k, .slice (some ad6) m.length cm, .int .i64 (m.length : Int), .bool true, .int .i64 k, .int .i64 (k + 1), .slice A ps.length c, .slice (some ad6) m.length cm, .int .i64 k, .pointer (some (ad6.add (k.toNat * 2))), .pointer (some (ad6.add (k.toNat * 2))), .int .i64 ((gx m k).1), .slice (some ad6) m.length cm, .int .i64 k, .pointer (some (ad6.add (k.toNat * 2))), .pointer (some ((ad6.add (k.toNat * 2)).add 1)), .int .i64 ((gx m k).2), .bool true, .bool false] k_ undef), (k + 1), congrArg Fr (by kernel_rfl), rfl, by omega, by omega, noP_step hN k0 (by omega) (by simp [hkn_gxmk1_gxmk2]), HS⟩
    · skip
      refine (r31has A c ps n l ((gx m k).1) ((gx m k).2) _ (hr.old0 HS) (fun p hp => (hpo p hp).old0 HS) hrm hn).mono ?_
      rintro e W8 ⟨rfl, H_⟩
      rw [Bool.eq_false_iff.2 hkn_gxmk1_gxmk2]
      refine ⟨_, rfl, ?_⟩
      replace HS : St W (owns []) W8 [] := HS.join (F := []) (G := []) H_
      clear H_
      refine ql (.bool true) (by kernel_rfl) (by kernel_rfl) ?_
      refine wpList_nil ?_
      refine x_then ?_
      refine wp_cond_true (by kernel_rfl) ?_
      refine wp_seq ?_
      refine wp_region_lit ?_
      refine ql (.bool false) (by kernel_rfl) (by kernel_rfl) ?_
      refine wpList_nil ?_
      refine x_then ?_
      refine wp_ret ?_
      refine x_inbR ?_
      refine x_thenR ?_
      refine x_thenR ?_
      refine x_inbR ?_
      refine x_thenR ?_
      refine ret_ (.bool false) (by kernel_rfl) ?_
      exact ⟨by rw [noP_allF k0 (by omega) (Bool.eq_false_iff.2 hkn_gxmk1_gxmk2)], HS⟩
  · skip
    refine ql (.bool false) (by kernel_rfl) (R_nbool (p := k < (m.length : Int)) (by kernel_rfl) (hc4)) ?_
    refine wpList_nil ?_
    refine x_then ?_
    refine wp_cond_false (by kernel_rfl) ?_
    refine wp_exit ?_
    refine x_thenE ?_
    refine x_thenE ?_
    refine x_hit ?_
    refine x_then ?_
    refine wp_seq ?_
    refine wp_region_lit ?_
    refine ql (.bool true) (by kernel_rfl) (by kernel_rfl) ?_
    refine wpList_nil ?_
    refine x_then ?_
    refine wp_ret ?_
    refine ret_ (.bool true) (by kernel_rfl) ?_
    exact ⟨by rw [noP_allK hN (by omega)], HS⟩

set_option maxRecDepth 100000 in
set_option maxHeartbeats 1000000 in
theorem r31bnd (A : Option Addr) (c : Nat) (ps : List Pp) (n : Int) (l : List (Int × Int)) (W : World) (hr : Rd W A (cp ps)) (hpo : ∀ p ∈ ps, Rd W p.1.1 (ci .i64 p.2)) (hrm : RM n l ps) (hn : n ≤ 12) : Calls Try.prog 42 #[.slice A ps.length c] W fun e W' => ∃ A' c', e = .returned (.slice A' (bndL n l).length c') ∧ St W (owns []) W' [row A' ((bndL n l).length) c' (cf prC (bndL n l)) 79 2] := by
  have HS : St W (owns []) W [] := St.start W _
  have hpl := hrm.len
  refine calls_enter [.slice A ps.length c, undef, undef, undef, undef, undef, undef, undef, undef, undef, undef, undef, undef, undef, undef, undef, undef, undef, undef, undef, undef, undef, undef, undef, undef, undef, undef, undef, undef, undef, undef, undef, undef, undef, undef, undef, undef, undef, undef] Try.func42 rfl (by kernel_rfl) ?_
  refine wp_seq ?_
  refine wp_region_lit ?_
  refine ql (.slice none 0 0) (by kernel_rfl) (by kernel_rfl) ?_
  refine wpList_nil ?_
  refine x_then ?_
  refine wp_seq ?_
  refine wp_region_lit ?_
  refine kl HS 0 [] 79 2 (by kernel_rfl) (by kernel_rfl) rfl (by decide) ?_
  intro g1 W2 H_
  replace HS : St W (owns []) W2 [row (some ⟨g1, 0, none⟩) 0 0 (cf prC ([])) 79 2] := H_.cast_ (by kernel_rfl)
  clear H_
  refine ql (.slice (some ⟨g1, 0, none⟩) 0 0) (by kernel_rfl) (by kernel_rfl) ?_
  refine wpList_nil ?_
  refine x_then ?_
  refine wp_seq ?_
  refine wp_seq ?_
  refine wp_region_lit ?_
  refine ql (.int .i64 1) (by kernel_rfl) (by kernel_rfl) ?_
  refine wpList_nil ?_
  refine x_then ?_
  refine wp_block ?_
  refine wp_loop_ghost (fun kq a' w' => ∃ (J3 : Nat → Value) (s : Int) (L6 : List (Int × Int)) (A6 : Option Addr) (c6 : Nat) , a' = Fr [.slice A ps.length c, undef, .slice none 0 0, .slice A6 L6.length c6, .int .i64 s, (J3 5), .slice (some ⟨g1, 0, none⟩) 0 0, (J3 7), (J3 8), (J3 9), (J3 10), (J3 11), (J3 12), (J3 13), (J3 14), (J3 15), (J3 16), (J3 17), (J3 18), (J3 19), (J3 20), (J3 21), (J3 22), (J3 23), (J3 24), (J3 25), (J3 26), (J3 27), (J3 28), (J3 29), (J3 30), (J3 31), (J3 32), (J3 33), (J3 34), (J3 35), (J3 36), (J3 37), undef] ∧ kq = ((n - s).toNat) ∧ (1 ≤ s) ∧ (s ≤ max n 1) ∧ (L6 = bndP n l s) ∧ St W (owns []) w' [row A6 L6.length c6 (cf prC L6) 79 2]) ((n - (1 : Int)).toNat) ⟨(fun k_ : Nat => List.getD [.slice A ps.length c, undef, .slice none 0 0, .slice (some ⟨g1, 0, none⟩) 0 0, .int .i64 1, undef, .slice (some ⟨g1, 0, none⟩) 0 0, undef, undef, undef, undef, undef, undef, undef, undef, undef, undef, undef, undef, undef, undef, undef, undef, undef, undef, undef, undef, undef, undef, undef, undef, undef, undef, undef, undef, undef, undef, undef, undef] k_ undef), (1 : Int), [], some ⟨g1, 0, none⟩, 0, congrArg Fr (by kernel_rfl), rfl, by omega, by omega, (bndP_1 n l).symm, HS⟩ ?_
  clear HS
  intro kq4 a' W5 hrel
  obtain ⟨J3, s, L6, A6, c6, rfl, hk, s0, s1, hL6, HS⟩ := hrel
  refine wp_seq ?_
  refine wp_seq ?_
  refine wp_region_lit ?_
  refine ql (.int .i64 s) (by kernel_rfl) (by kernel_rfl) ?_
  refine ql (.slice A ps.length c) (by kernel_rfl) (by kernel_rfl) ?_
  refine ql (.int .i64 (ps.length : Int)) (by kernel_rfl) (by kernel_rfl) ?_
  by_cases hc6 : s < (ps.length : Int)
  · skip
    refine ql (.bool true) (by kernel_rfl) (R_bool (p := s < (ps.length : Int)) (by kernel_rfl) (hc6)) ?_
    refine wpList_nil ?_
    refine x_then ?_
    refine wp_cond_true (by kernel_rfl) ?_
    refine wp_skip ?_
    refine x_then ?_
    refine wp_seq ?_
    refine wp_block ?_
    refine wp_seq ?_
    refine wp_region_lit ?_
    refine ql (.int .i64 0) (by kernel_rfl) (by kernel_rfl) ?_
    refine wpList_nil ?_
    refine x_then ?_
    refine wp_block ?_
    refine wp_loop_ghost (fun kq a' w' => ∃ (J7 : Nat → Value) (j : Int) (L5 : List (Int × Int)) (A5 : Option Addr) (c5 : Nat) , a' = Fr [.slice A ps.length c, undef, .slice none 0 0, .slice A5 L5.length c5, .int .i64 s, .int .i64 j, .slice (some ⟨g1, 0, none⟩) 0 0, .int .i64 s, .slice A ps.length c, .int .i64 (ps.length : Int), .bool true, (J3 11), (J3 12), (J7 13), (J7 14), (J7 15), (J7 16), (J7 17), (J7 18), (J7 19), (J7 20), (J7 21), (J7 22), (J7 23), (J7 24), (J7 25), (J7 26), (J7 27), (J7 28), (J7 29), (J7 30), (J7 31), (J7 32), (J7 33), (J7 34), (J7 35), (J7 36), (J7 37), undef] ∧ kq = ((n - j).toNat) ∧ (0 ≤ j) ∧ (j ≤ n) ∧ (L5 = bndJ n l s j) ∧ St W (owns []) w' [row A5 L5.length c5 (cf prC L5) 79 2]) ((n - (0 : Int)).toNat) ⟨(fun k_ : Nat => List.getD [.slice A ps.length c, undef, .slice none 0 0, .slice A6 L6.length c6, .int .i64 s, .int .i64 0, .slice (some ⟨g1, 0, none⟩) 0 0, .int .i64 s, .slice A ps.length c, .int .i64 (ps.length : Int), .bool true, (J3 11), (J3 12), (J3 13), (J3 14), (J3 15), (J3 16), (J3 17), (J3 18), (J3 19), (J3 20), (J3 21), (J3 22), (J3 23), (J3 24), (J3 25), (J3 26), (J3 27), (J3 28), (J3 29), (J3 30), (J3 31), (J3 32), (J3 33), (J3 34), (J3 35), (J3 36), (J3 37), undef] k_ undef), (0 : Int), L6, A6, c6, congrArg Fr (by kernel_rfl), rfl, by omega, by omega, (by rw [bndJ_0]; exact hL6), HS⟩ ?_
    clear HS
    intro kq8 a' W9 hrel
    obtain ⟨J7, j, L5, A5, c5, rfl, hk, j0, j1, hL5, HS⟩ := hrel
    have hbl := bndJ_len (n := n) (l := l) (s := s) (j := j) (by omega) hn (by omega) (by omega)
    rw [← hL5] at hbl
    refine wp_seq ?_
    refine wp_seq ?_
    refine wp_region_lit ?_
    refine ql (.int .i64 j) (by kernel_rfl) (by kernel_rfl) ?_
    refine ql (.slice A ps.length c) (by kernel_rfl) (by kernel_rfl) ?_
    refine ql (.int .i64 (ps.length : Int)) (by kernel_rfl) (by kernel_rfl) ?_
    by_cases hc10 : j < (ps.length : Int)
    · skip
      refine ql (.bool true) (by kernel_rfl) (R_bool (p := j < (ps.length : Int)) (by kernel_rfl) (hc10)) ?_
      refine wpList_nil ?_
      refine x_then ?_
      refine wp_cond_true (by kernel_rfl) ?_
      refine wp_skip ?_
      refine x_then ?_
      refine wp_seq ?_
      refine wp_block ?_
      refine wp_seq ?_
      refine wp_region_lit ?_
      refine ql (.int .i64 s) (by kernel_rfl) (by kernel_rfl) ?_
      refine ql (.int .i64 j) (by kernel_rfl) (by kernel_rfl) ?_
      by_cases hc11 : s = j
      · skip
        refine ql (.bool false) (by kernel_rfl) (R_beq (b := (s != j)) (by kernel_rfl) (bne_f (hc11))) ?_
        refine ql (.bool false) (by kernel_rfl) (by kernel_rfl) ?_
        refine qln (by kernel_rfl) ?_
        refine qln (by kernel_rfl) ?_
        refine qln (by kernel_rfl) ?_
        refine qln (by kernel_rfl) ?_
        refine qln (by kernel_rfl) ?_
        refine qln (by kernel_rfl) ?_
        refine qln (by kernel_rfl) ?_
        refine qln (by kernel_rfl) ?_
        refine ql (.bool false) (by kernel_rfl) (by kernel_rfl) ?_
        refine wpList_nil ?_
        refine x_then ?_
        refine wp_cond_false (by kernel_rfl) ?_
        refine wp_skip ?_
        refine x_inb ?_
        refine x_then ?_
        refine wp_region_lit ?_
        refine ql (.int .i64 j) (by kernel_rfl) (by kernel_rfl) ?_
        refine ql (.int .i64 (j + 1)) (by kernel_rfl) (R_int (by kernel_rfl) (w64 (by omega))) ?_
        refine ql (.int .i64 (j + 1)) (by kernel_rfl) (by kernel_rfl) ?_
        refine wpList_nil ?_
        refine x_then ?_
        exact ⟨(n - (j + 1)).toNat, by omega, (fun k_ : Nat => List.getD [.slice A ps.length c, undef, .slice none 0 0, .slice A5 L5.length c5, .int .i64 s, .int .i64 (j + 1), .slice (some ⟨g1, 0, none⟩) 0 0, .int .i64 s, .slice A ps.length c, .int .i64 (ps.length : Int), .bool true, (J3 11), (J3 12), .int .i64 j, .slice A ps.length c, .int .i64 (ps.length : Int), .bool true, .int .i64 j, .int .i64 (j + 1), .int .i64 s, .int .i64 j, .bool false, .bool false, undef, undef, undef, undef, undef, undef, undef, undef, .bool false, (J7 32), (J7 33), (J7 34), (J7 35), (J7 36), (J7 37), undef] k_ undef), (j + 1), L5, A5, c5, congrArg Fr (by kernel_rfl), rfl, by omega, by omega, (by rw [bndJ_f j0 (.inl (by omega))]; exact hL5), HS⟩
      · skip
        refine ql (.bool true) (by kernel_rfl) (R_beq (b := (s != j)) (by kernel_rfl) (bne_t (hc11))) ?_
        refine ql (.bool true) (by kernel_rfl) (by kernel_rfl) ?_
        refine ql (.slice A ps.length c) (by kernel_rfl) (by kernel_rfl) ?_
        refine ql (.int .i64 s) (by kernel_rfl) (by kernel_rfl) ?_
        obtain ⟨ad12, rfl⟩ := Rd.isSome_ hr (by rw [cp_len]; omega)
        refine ql (.pointer (some (ad12.add s.toNat))) (by kernel_rfl) (R_indexA1 (k := .i64) (p := ad12) (n := ps.length) (c := c) (i := s) (by kernel_rfl) (by kernel_rfl) Try.underlying59 (by kernel_rfl) (by omega) (by omega)) ?_
        obtain ⟨Ae13, ce13, le13, he13⟩ : ∃ A_ c_ l_, gx ps s = ((A_, c_), l_) := ⟨_, _, _, rfl⟩
        have he13m := gx_in (xs := ps) (i := s) (by omega) (by omega)
        rw [he13] at he13m
        have le13n : (le13.length : Int) = n := hrm.rl _ he13m
        refine ql (.slice Ae13 le13.length ce13) (by kernel_rfl) (R_load (p := ad12.add s.toNat) (by kernel_rfl) (by kernel_rfl) (by kernel_rfl) (HS.old0 (hr.at_ (cp_at (by omega) (by omega) he13)))) ?_
        refine ql (.int .i64 j) (by kernel_rfl) (by kernel_rfl) ?_
        obtain ⟨ad14, rfl⟩ := Rd.isSome_ ((hpo_at hpo he13m).old0 HS) (by rw [ci_len]; omega)
        refine ql (.pointer (some (ad14.add j.toNat))) (by kernel_rfl) (R_indexA1 (k := .i64) (p := ad14) (n := le13.length) (c := ce13) (i := j) (by kernel_rfl) (by kernel_rfl) Try.underlying22 (by kernel_rfl) (by omega) (by omega)) ?_
        refine ql (.int .i64 (rdI le13 j)) (by kernel_rfl) (R_load (p := ad14.add j.toNat) (by kernel_rfl) (by kernel_rfl) (by kernel_rfl) (((hpo_at hpo he13m).old0 HS).at_ (ci_rd (i := j) (by omega) (by omega)))) ?_
        by_cases hc15 : (rdI le13 j) = (1 : Int)
        · skip
          refine ql (.bool true) (by kernel_rfl) (R_beq (b := (rdI le13 j == (1 : Int))) (by kernel_rfl) (beq_t (hc15))) ?_
          refine ql (.bool true) (by kernel_rfl) (by kernel_rfl) ?_
          refine wpList_nil ?_
          refine x_then ?_
          refine wp_cond_true (by kernel_rfl) ?_
          refine wp_region_lit ?_
          refine ql (.slice A5 L5.length c5) (by kernel_rfl) (by kernel_rfl) ?_
          refine ql (.int .i64 s) (by kernel_rfl) (by kernel_rfl) ?_
          refine ql (.int .i64 j) (by kernel_rfl) (by kernel_rfl) ?_
          refine ql (.agg #[.int .i64 s, .int .i64 j]) (by kernel_rfl) (by kernel_rfl) ?_
          refine kl HS 1 [.int .i64 s, .int .i64 j] 79 2 (by kernel_rfl) (by kernel_rfl) rfl (by decide) ?_
          intro g16 W17 H_
          replace HS : St W (owns []) W17 [row (some ⟨g16, 0, none⟩) 1 1 (cf prC ([(s, j)])) 79 2, row A5 L5.length c5 (cf prC L5) 79 2] := H_.cast_ (by kernel_rfl)
          clear H_
          obtain ⟨xs21, xs21_⟩ : ∃ z_ : List (Int × Int), z_ = L5 ++ ([(s, j)]) := ⟨_, rfl⟩
          have xs21l : xs21.length = L5.length + 1 := by rw [xs21_, List.length_append] <;> (try simp only [List.length_cons, List.length_nil]) <;> omega
          refine ka1 HS 1 rfl (Src.of_row HS (i := 0) rfl (cf_one (fun _ => rfl))) [.int .i64 0, .int .i64 0] 16 xs21.length (cf prC xs21) (by omega) (by rw [xs21_, cf_app]) (by kernel_rfl) (by kernel_rfl) (by kernel_rfl) Try.underlying34 (by kernel_rfl) (by kernel_rfl) (by kernel_rfl) (by kernel_rfl) (by decide) (by omega) (by omega) ?_
          intro A18 c19 W20 H_
          replace HS : St W (owns []) W20 [row (some ⟨g16, 0, none⟩) 1 1 (cf prC ([(s, j)])) 79 2, row A18 xs21.length c19 (cf prC xs21) 79 2] := H_
          clear H_
          refine ql (.slice A18 xs21.length c19) (by kernel_rfl) (by kernel_rfl) ?_
          refine wpList_nil ?_
          refine x_inb ?_
          refine x_then ?_
          refine wp_region_lit ?_
          refine ql (.int .i64 j) (by kernel_rfl) (by kernel_rfl) ?_
          refine ql (.int .i64 (j + 1)) (by kernel_rfl) (R_int (by kernel_rfl) (w64 (by omega))) ?_
          refine ql (.int .i64 (j + 1)) (by kernel_rfl) (by kernel_rfl) ?_
          refine wpList_nil ?_
          replace HS := HS.drop1
          refine x_then ?_
          exact ⟨(n - (j + 1)).toNat, by omega, (fun k_ : Nat => List.getD [.slice (some ad12) ps.length c, undef, .slice none 0 0, .slice A18 xs21.length c19, .int .i64 s, .int .i64 (j + 1), .slice (some ⟨g1, 0, none⟩) 0 0, .int .i64 s, .slice (some ad12) ps.length c, .int .i64 (ps.length : Int), .bool true, (J3 11), (J3 12), .int .i64 j, .slice (some ad12) ps.length c, .int .i64 (ps.length : Int), .bool true, .int .i64 j, .int .i64 (j + 1), .int .i64 s, .int .i64 j, .bool true, .bool true, .slice (some ad12) ps.length c, .int .i64 s, .pointer (some (ad12.add s.toNat)), .slice (some ad14) le13.length ce13, .int .i64 j, .pointer (some (ad14.add j.toNat)), .int .i64 (rdI le13 j), .bool true, .bool true, .slice A5 L5.length c5, .int .i64 s, .int .i64 j, .agg #[.int .i64 s, .int .i64 j], .slice (some ⟨g16, 0, none⟩) 1 1, .slice A18 xs21.length c19, undef] k_ undef), (j + 1), xs21, A18, c19, congrArg Fr (by kernel_rfl), rfl, by omega, by omega, (by rw [xs21_, bndJ_t j0 (by omega) (rm_t hrm (by omega) (by omega) j0 (by omega) (by unfold vl; rw [he13]; exact hc15)), hL5]), HS⟩
        · skip
          refine ql (.bool false) (by kernel_rfl) (R_beq (b := (rdI le13 j == (1 : Int))) (by kernel_rfl) (beq_f (hc15))) ?_
          refine ql (.bool false) (by kernel_rfl) (by kernel_rfl) ?_
          refine wpList_nil ?_
          refine x_then ?_
          refine wp_cond_false (by kernel_rfl) ?_
          refine wp_skip ?_
          refine x_inb ?_
          refine x_then ?_
          refine wp_region_lit ?_
          refine ql (.int .i64 j) (by kernel_rfl) (by kernel_rfl) ?_
          refine ql (.int .i64 (j + 1)) (by kernel_rfl) (R_int (by kernel_rfl) (w64 (by omega))) ?_
          refine ql (.int .i64 (j + 1)) (by kernel_rfl) (by kernel_rfl) ?_
          refine wpList_nil ?_
          refine x_then ?_
          exact ⟨(n - (j + 1)).toNat, by omega, (fun k_ : Nat => List.getD [.slice (some ad12) ps.length c, undef, .slice none 0 0, .slice A5 L5.length c5, .int .i64 s, .int .i64 (j + 1), .slice (some ⟨g1, 0, none⟩) 0 0, .int .i64 s, .slice (some ad12) ps.length c, .int .i64 (ps.length : Int), .bool true, (J3 11), (J3 12), .int .i64 j, .slice (some ad12) ps.length c, .int .i64 (ps.length : Int), .bool true, .int .i64 j, .int .i64 (j + 1), .int .i64 s, .int .i64 j, .bool true, .bool true, .slice (some ad12) ps.length c, .int .i64 s, .pointer (some (ad12.add s.toNat)), .slice (some ad14) le13.length ce13, .int .i64 j, .pointer (some (ad14.add j.toNat)), .int .i64 (rdI le13 j), .bool false, .bool false, (J7 32), (J7 33), (J7 34), (J7 35), (J7 36), (J7 37), undef] k_ undef), (j + 1), L5, A5, c5, congrArg Fr (by kernel_rfl), rfl, by omega, by omega, (by rw [bndJ_f j0 (.inr (rm_f hrm (by omega) (by omega) j0 (by omega) (by unfold vl; rw [he13]; exact hc15)))]; exact hL5), HS⟩
    · skip
      refine ql (.bool false) (by kernel_rfl) (R_nbool (p := j < (ps.length : Int)) (by kernel_rfl) (hc10)) ?_
      refine wpList_nil ?_
      refine x_then ?_
      refine wp_cond_false (by kernel_rfl) ?_
      refine wp_exit ?_
      refine x_thenE ?_
      refine x_thenE ?_
      refine x_hit ?_
      refine x_inb ?_
      refine x_then ?_
      refine wp_region_lit ?_
      refine ql (.int .i64 s) (by kernel_rfl) (by kernel_rfl) ?_
      refine ql (.int .i64 (s + 1)) (by kernel_rfl) (R_int (by kernel_rfl) (w64 (by omega))) ?_
      refine ql (.int .i64 (s + 1)) (by kernel_rfl) (by kernel_rfl) ?_
      refine wpList_nil ?_
      refine x_then ?_
      exact ⟨(n - (s + 1)).toNat, by omega, (fun k_ : Nat => List.getD [.slice A ps.length c, undef, .slice none 0 0, .slice A5 L5.length c5, .int .i64 (s + 1), .int .i64 j, .slice (some ⟨g1, 0, none⟩) 0 0, .int .i64 s, .slice A ps.length c, .int .i64 (ps.length : Int), .bool true, .int .i64 s, .int .i64 (s + 1), .int .i64 j, .slice A ps.length c, .int .i64 (ps.length : Int), .bool false, (J7 17), (J7 18), (J7 19), (J7 20), (J7 21), (J7 22), (J7 23), (J7 24), (J7 25), (J7 26), (J7 27), (J7 28), (J7 29), (J7 30), (J7 31), (J7 32), (J7 33), (J7 34), (J7 35), (J7 36), (J7 37), undef] k_ undef), (s + 1), L5, A5, c5, congrArg Fr (by kernel_rfl), rfl, by omega, by omega, (by rw [hL5]; exact bndJ_e s0 (by omega)), HS⟩
  · skip
    refine ql (.bool false) (by kernel_rfl) (R_nbool (p := s < (ps.length : Int)) (by kernel_rfl) (hc6)) ?_
    refine wpList_nil ?_
    refine x_then ?_
    refine wp_cond_false (by kernel_rfl) ?_
    refine wp_exit ?_
    refine x_thenE ?_
    refine x_thenE ?_
    refine x_hit ?_
    refine x_then ?_
    refine wp_seq ?_
    refine wp_region_lit ?_
    refine ql (.slice A6 L6.length c6) (by kernel_rfl) (by kernel_rfl) ?_
    refine ql (.slice A6 L6.length c6) (by kernel_rfl) (by kernel_rfl) ?_
    refine wpList_nil ?_
    refine x_then ?_
    refine wp_ret ?_
    refine ret_ (.slice A6 L6.length c6) (by kernel_rfl) ?_
    have hq : L6 = bndL n l := hL6.trans (bndP_e s0 (by omega) s1)
    subst hq
    exact ⟨_, _, rfl, HS⟩

set_option maxRecDepth 100000 in
set_option maxHeartbeats 1000000 in
theorem r31of0a (n : Int) (Al : Option Addr) (cl : Nat) (l : List (Int × Int)) (W : World) (ho : n < 0) : Calls Try.prog 35 #[.int .i64 n, .slice Al l.length cl] W fun e W' => ∃ A' c', e = .returned (.slice A' ([] : List Pp).length c') ∧ St W (owns []) W' [row A' (([] : List Pp).length) c' (cp ([] : List Pp)) 22 1] := by
  have HS : St W (owns []) W [] := St.start W _
  refine calls_enter ((.int .i64 n) :: (.slice Al l.length cl) :: undef :: undef :: undef :: undef :: undef :: undef :: undef :: undef :: undef :: undef :: undef :: undef :: undef :: undef :: undef :: undef :: undef :: undef :: undef :: undef :: undef :: undef :: undef :: undef :: undef :: undef :: undef :: undef :: undef :: undef :: undef :: undef :: undef :: undef :: undef :: undef :: undef :: undef :: undef :: undef :: undef :: undef :: undef :: undef :: undef :: undef :: undef :: undef :: undef :: undef :: undef :: undef :: undef :: undef :: undef :: undef :: undef :: undef :: undef :: undef :: undef :: undef :: undef :: undef :: undef :: undef :: undef :: undef :: undef :: undef :: undef :: undef :: undef :: undef :: undef :: undef :: undef :: undef :: undef :: undef :: undef :: undef :: undef :: undef :: undef :: undef :: undef :: undef :: undef :: undef :: undef :: undef :: undef :: undef :: undef :: undef :: undef :: undef :: undef :: undef :: undef :: undef :: undef :: undef :: undef :: undef :: undef :: undef :: undef :: undef :: undef :: undef :: undef :: undef :: undef :: undef :: undef :: undef :: undef :: undef :: []) Try.func35 rfl (by kernel_rfl) ?_
  refine wp_seq ?_
  refine wp_region_lit ?_
  refine ql (.slice none 0 0) (by kernel_rfl) (by kernel_rfl) ?_
  refine wpList_nil ?_
  refine x_then ?_
  refine wp_seq ?_
  refine wp_region_lit ?_
  refine kl HS 0 [] 22 1 (by kernel_rfl) (by kernel_rfl) rfl (by decide) ?_
  intro g1 W2 H_
  replace HS : St W (owns []) W2 [row (some ⟨g1, 0, none⟩) 0 0 (cp ([])) 22 1] := H_.cast_ (by kernel_rfl)
  clear H_
  refine ql (.slice (some ⟨g1, 0, none⟩) 0 0) (by kernel_rfl) (by kernel_rfl) ?_
  refine wpList_nil ?_
  refine x_then ?_
  refine wp_seq ?_
  refine wp_seq ?_
  refine wp_region_lit ?_
  refine ql (.int .i64 n) (by kernel_rfl) (by kernel_rfl) ?_
  refine ql (.bool true) (by kernel_rfl) (R_bool (p := n < (0 : Int)) (by kernel_rfl) (by omega)) ?_
  refine ql (.bool true) (by kernel_rfl) (by kernel_rfl) ?_
  refine qln (by kernel_rfl) ?_
  refine qln (by kernel_rfl) ?_
  refine ql (.bool true) (by kernel_rfl) (by kernel_rfl) ?_
  refine wpList_nil ?_
  refine x_then ?_
  refine wp_cond_true (by kernel_rfl) ?_
  refine wp_seq ?_
  refine wp_region_lit ?_
  refine ql (.slice (some ⟨g1, 0, none⟩) 0 0) (by kernel_rfl) (by kernel_rfl) ?_
  refine ql (.slice (some ⟨g1, 0, none⟩) 0 0) (by kernel_rfl) (by kernel_rfl) ?_
  refine wpList_nil ?_
  refine x_then ?_
  refine wp_ret ?_
  refine x_thenR ?_
  refine ret_ (.slice (some ⟨g1, 0, none⟩) 0 0) (by kernel_rfl) ?_
  exact ⟨_, _, rfl, HS⟩

set_option maxRecDepth 100000 in
set_option maxHeartbeats 1000000 in
theorem kof0a (n : Int) (Al : Option Addr) (cl : Nat) (l : List (Int × Int)) (W : World) (ho : n < 0) : Calls Try.prog 19 #[.int .i64 n, .slice Al l.length cl] W fun e W' => ∃ k, e = .returned (.pointer (some ⟨k, 0, none⟩)) ∧ St W (owns []) W' [blk k [.int .i64 0, .map none, .pointer none] 83] := by
  have HS : St W (owns []) W [] := St.start W _
  refine calls_enter ((.int .i64 n) :: (.slice Al l.length cl) :: undef :: undef :: undef :: undef :: undef :: undef :: undef :: undef :: undef :: undef :: undef :: undef :: undef :: undef :: undef :: undef :: undef :: undef :: undef :: undef :: undef :: undef :: undef :: undef :: undef :: undef :: undef :: undef :: undef :: undef :: undef :: undef :: undef :: undef :: undef :: undef :: undef :: undef :: undef :: undef :: undef :: undef :: undef :: undef :: undef :: undef :: undef :: undef :: undef :: undef :: undef :: undef :: undef :: undef :: undef :: undef :: undef :: undef :: undef :: undef :: undef :: undef :: undef :: undef :: undef :: undef :: undef :: undef :: undef :: undef :: undef :: undef :: undef :: undef :: undef :: undef :: undef :: undef :: undef :: undef :: undef :: undef :: undef :: undef :: undef :: undef :: undef :: undef :: undef :: undef :: []) Try.func19 rfl (by kernel_rfl) ?_
  refine wp_seq ?_
  refine wp_region_lit ?_
  refine ql (.pointer none) (by kernel_rfl) (by kernel_rfl) ?_
  refine wpList_nil ?_
  refine x_then ?_
  refine wp_seq ?_
  refine wp_seq ?_
  refine wp_region_lit ?_
  refine ql (.int .i64 n) (by kernel_rfl) (by kernel_rfl) ?_
  refine ql (.bool true) (by kernel_rfl) (R_bool (p := n < (0 : Int)) (by kernel_rfl) (by omega)) ?_
  refine ql (.bool true) (by kernel_rfl) (by kernel_rfl) ?_
  refine qln (by kernel_rfl) ?_
  refine qln (by kernel_rfl) ?_
  refine ql (.bool true) (by kernel_rfl) (by kernel_rfl) ?_
  refine wpList_nil ?_
  refine x_then ?_
  refine wp_cond_true (by kernel_rfl) ?_
  refine wp_seq ?_
  refine wp_region_lit ?_
  refine ql (.agg #[.int .i64 0, .map none, .pointer none]) (by kernel_rfl) (by kernel_rfl) ?_
  refine kb HS [.int .i64 0, .map none, .pointer none] 83 (fun g => .pointer (some ⟨g, 0, none⟩)) (by kernel_rfl) (by kernel_rfl) ?_
  intro g1 W2 H_
  replace HS : St W (owns []) W2 [blk g1 [.int .i64 0, .map none, .pointer none] 83] := H_
  clear H_
  refine ql (.pointer (some ⟨g1, 0, none⟩)) (by kernel_rfl) (by kernel_rfl) ?_
  refine wpList_nil ?_
  refine x_then ?_
  refine wp_ret ?_
  refine x_thenR ?_
  refine ret_ (.pointer (some ⟨g1, 0, none⟩)) (by kernel_rfl) ?_
  exact ⟨_, rfl, HS⟩

set_option maxRecDepth 100000 in
set_option maxHeartbeats 1000000 in
theorem r31of0b (n : Int) (Al : Option Addr) (cl : Nat) (l : List (Int × Int)) (W : World) (ho : 65536 < n) : Calls Try.prog 35 #[.int .i64 n, .slice Al l.length cl] W fun e W' => ∃ A' c', e = .returned (.slice A' ([] : List Pp).length c') ∧ St W (owns []) W' [row A' (([] : List Pp).length) c' (cp ([] : List Pp)) 22 1] := by
  have HS : St W (owns []) W [] := St.start W _
  refine calls_enter ((.int .i64 n) :: (.slice Al l.length cl) :: undef :: undef :: undef :: undef :: undef :: undef :: undef :: undef :: undef :: undef :: undef :: undef :: undef :: undef :: undef :: undef :: undef :: undef :: undef :: undef :: undef :: undef :: undef :: undef :: undef :: undef :: undef :: undef :: undef :: undef :: undef :: undef :: undef :: undef :: undef :: undef :: undef :: undef :: undef :: undef :: undef :: undef :: undef :: undef :: undef :: undef :: undef :: undef :: undef :: undef :: undef :: undef :: undef :: undef :: undef :: undef :: undef :: undef :: undef :: undef :: undef :: undef :: undef :: undef :: undef :: undef :: undef :: undef :: undef :: undef :: undef :: undef :: undef :: undef :: undef :: undef :: undef :: undef :: undef :: undef :: undef :: undef :: undef :: undef :: undef :: undef :: undef :: undef :: undef :: undef :: undef :: undef :: undef :: undef :: undef :: undef :: undef :: undef :: undef :: undef :: undef :: undef :: undef :: undef :: undef :: undef :: undef :: undef :: undef :: undef :: undef :: undef :: undef :: undef :: undef :: undef :: undef :: undef :: undef :: undef :: []) Try.func35 rfl (by kernel_rfl) ?_
  refine wp_seq ?_
  refine wp_region_lit ?_
  refine ql (.slice none 0 0) (by kernel_rfl) (by kernel_rfl) ?_
  refine wpList_nil ?_
  refine x_then ?_
  refine wp_seq ?_
  refine wp_region_lit ?_
  refine kl HS 0 [] 22 1 (by kernel_rfl) (by kernel_rfl) rfl (by decide) ?_
  intro g1 W2 H_
  replace HS : St W (owns []) W2 [row (some ⟨g1, 0, none⟩) 0 0 (cp ([])) 22 1] := H_.cast_ (by kernel_rfl)
  clear H_
  refine ql (.slice (some ⟨g1, 0, none⟩) 0 0) (by kernel_rfl) (by kernel_rfl) ?_
  refine wpList_nil ?_
  refine x_then ?_
  refine wp_seq ?_
  refine wp_seq ?_
  refine wp_region_lit ?_
  refine ql (.int .i64 n) (by kernel_rfl) (by kernel_rfl) ?_
  refine ql (.bool false) (by kernel_rfl) (R_nbool (p := n < (0 : Int)) (by kernel_rfl) (by omega)) ?_
  refine ql (.bool false) (by kernel_rfl) (by kernel_rfl) ?_
  refine ql (.int .i64 n) (by kernel_rfl) (by kernel_rfl) ?_
  refine ql (.bool true) (by kernel_rfl) (R_bool (p := n > (65536 : Int)) (by kernel_rfl) (by omega)) ?_
  refine ql (.bool true) (by kernel_rfl) (by kernel_rfl) ?_
  refine wpList_nil ?_
  refine x_then ?_
  refine wp_cond_true (by kernel_rfl) ?_
  refine wp_seq ?_
  refine wp_region_lit ?_
  refine ql (.slice (some ⟨g1, 0, none⟩) 0 0) (by kernel_rfl) (by kernel_rfl) ?_
  refine ql (.slice (some ⟨g1, 0, none⟩) 0 0) (by kernel_rfl) (by kernel_rfl) ?_
  refine wpList_nil ?_
  refine x_then ?_
  refine wp_ret ?_
  refine x_thenR ?_
  refine ret_ (.slice (some ⟨g1, 0, none⟩) 0 0) (by kernel_rfl) ?_
  exact ⟨_, _, rfl, HS⟩

set_option maxRecDepth 100000 in
set_option maxHeartbeats 1000000 in
theorem kof0b (n : Int) (Al : Option Addr) (cl : Nat) (l : List (Int × Int)) (W : World) (ho : 65536 < n) : Calls Try.prog 19 #[.int .i64 n, .slice Al l.length cl] W fun e W' => ∃ k, e = .returned (.pointer (some ⟨k, 0, none⟩)) ∧ St W (owns []) W' [blk k [.int .i64 0, .map none, .pointer none] 83] := by
  have HS : St W (owns []) W [] := St.start W _
  refine calls_enter ((.int .i64 n) :: (.slice Al l.length cl) :: undef :: undef :: undef :: undef :: undef :: undef :: undef :: undef :: undef :: undef :: undef :: undef :: undef :: undef :: undef :: undef :: undef :: undef :: undef :: undef :: undef :: undef :: undef :: undef :: undef :: undef :: undef :: undef :: undef :: undef :: undef :: undef :: undef :: undef :: undef :: undef :: undef :: undef :: undef :: undef :: undef :: undef :: undef :: undef :: undef :: undef :: undef :: undef :: undef :: undef :: undef :: undef :: undef :: undef :: undef :: undef :: undef :: undef :: undef :: undef :: undef :: undef :: undef :: undef :: undef :: undef :: undef :: undef :: undef :: undef :: undef :: undef :: undef :: undef :: undef :: undef :: undef :: undef :: undef :: undef :: undef :: undef :: undef :: undef :: undef :: undef :: undef :: undef :: undef :: undef :: []) Try.func19 rfl (by kernel_rfl) ?_
  refine wp_seq ?_
  refine wp_region_lit ?_
  refine ql (.pointer none) (by kernel_rfl) (by kernel_rfl) ?_
  refine wpList_nil ?_
  refine x_then ?_
  refine wp_seq ?_
  refine wp_seq ?_
  refine wp_region_lit ?_
  refine ql (.int .i64 n) (by kernel_rfl) (by kernel_rfl) ?_
  refine ql (.bool false) (by kernel_rfl) (R_nbool (p := n < (0 : Int)) (by kernel_rfl) (by omega)) ?_
  refine ql (.bool false) (by kernel_rfl) (by kernel_rfl) ?_
  refine ql (.int .i64 n) (by kernel_rfl) (by kernel_rfl) ?_
  refine ql (.bool true) (by kernel_rfl) (R_bool (p := n > (65536 : Int)) (by kernel_rfl) (by omega)) ?_
  refine ql (.bool true) (by kernel_rfl) (by kernel_rfl) ?_
  refine wpList_nil ?_
  refine x_then ?_
  refine wp_cond_true (by kernel_rfl) ?_
  refine wp_seq ?_
  refine wp_region_lit ?_
  refine ql (.agg #[.int .i64 0, .map none, .pointer none]) (by kernel_rfl) (by kernel_rfl) ?_
  refine kb HS [.int .i64 0, .map none, .pointer none] 83 (fun g => .pointer (some ⟨g, 0, none⟩)) (by kernel_rfl) (by kernel_rfl) ?_
  intro g1 W2 H_
  replace HS : St W (owns []) W2 [blk g1 [.int .i64 0, .map none, .pointer none] 83] := H_
  clear H_
  refine ql (.pointer (some ⟨g1, 0, none⟩)) (by kernel_rfl) (by kernel_rfl) ?_
  refine wpList_nil ?_
  refine x_then ?_
  refine wp_ret ?_
  refine x_thenR ?_
  refine ret_ (.pointer (some ⟨g1, 0, none⟩)) (by kernel_rfl) ?_
  exact ⟨_, rfl, HS⟩

set_option maxRecDepth 100000 in
set_option maxHeartbeats 1000000 in
theorem khas0 (k : Nat) (a c : Int) (W : World) (hk0 : W.cell? ⟨k, 0, none⟩ = some (.int .i64 0)) : Calls Try.prog 21 #[.pointer (some ⟨k, 0, none⟩), .int .i64 a, .int .i64 c] W fun e W' => e = .returned (.bool false) ∧ St W (owns []) W' [] := by
  have HS : St W (owns []) W [] := St.start W _
  refine calls_enter ((.pointer (some ⟨k, 0, none⟩)) :: (.int .i64 a) :: (.int .i64 c) :: undef :: undef :: undef :: undef :: undef :: undef :: undef :: undef :: undef :: undef :: undef :: undef :: undef :: undef :: undef :: undef :: undef :: undef :: undef :: undef :: undef :: undef :: undef :: undef :: undef :: undef :: undef :: undef :: undef :: undef :: undef :: undef :: undef :: undef :: undef :: undef :: undef :: undef :: undef :: undef :: undef :: undef :: undef :: undef :: undef :: undef :: undef :: undef :: undef :: undef :: undef :: undef :: undef :: undef :: undef :: undef :: undef :: undef :: undef :: undef :: undef :: undef :: undef :: []) Try.func21 rfl (by kernel_rfl) ?_
  refine wp_seq ?_
  refine wp_region_lit ?_
  refine ql (.bool false) (by kernel_rfl) (by kernel_rfl) ?_
  refine wpList_nil ?_
  refine x_then ?_
  refine wp_seq ?_
  refine wp_seq ?_
  refine wp_region_lit ?_
  refine ql (.pointer (some ⟨k, 0, none⟩)) (by kernel_rfl) (by kernel_rfl) ?_
  refine ql (.int .i64 a) (by kernel_rfl) (by kernel_rfl) ?_
  refine qc (f := 54) (args := #[.pointer (some ⟨k, 0, none⟩), .int .i64 a]) (by kernel_rfl) (R_call #[.pointer (some ⟨k, 0, none⟩), .int .i64 a] Try.func54 (by kernel_rfl) (by kernel_rfl) (by kernel_rfl)) ?_
  refine (kis_f k 0 a _ (HS.old0 hk0) (by omega)).mono ?_
  rintro e W1 ⟨rfl, H_⟩
  refine ⟨_, rfl, ?_⟩
  replace HS : St W (owns []) W1 [] := HS.join (F := []) (G := []) H_
  clear H_
  refine ql (.bool true) (by kernel_rfl) (by kernel_rfl) ?_
  refine ql (.bool true) (by kernel_rfl) (by kernel_rfl) ?_
  refine qln (by kernel_rfl) ?_
  refine qln (by kernel_rfl) ?_
  refine qln (by kernel_rfl) ?_
  refine qln (by kernel_rfl) ?_
  refine ql (.bool true) (by kernel_rfl) (by kernel_rfl) ?_
  refine wpList_nil ?_
  refine x_then ?_
  refine wp_cond_true (by kernel_rfl) ?_
  refine wp_seq ?_
  refine wp_region_lit ?_
  refine ql (.bool false) (by kernel_rfl) (by kernel_rfl) ?_
  refine wpList_nil ?_
  refine x_then ?_
  refine wp_ret ?_
  refine x_thenR ?_
  refine ret_ (.bool false) (by kernel_rfl) ?_
  exact ⟨rfl, HS⟩

set_option maxRecDepth 100000 in
set_option maxHeartbeats 1000000 in
theorem kalike0 (k : Nat) (a c : Int) (W : World) (hk0 : W.cell? ⟨k, 0, none⟩ = some (.int .i64 0)) : Calls Try.prog 20 #[.pointer (some ⟨k, 0, none⟩), .int .i64 a, .int .i64 c] W fun e W' => e = .returned (.bool false) ∧ St W (owns []) W' [] := by
  have HS : St W (owns []) W [] := St.start W _
  refine calls_enter [.pointer (some ⟨k, 0, none⟩), .int .i64 a, .int .i64 c, undef, undef, undef, undef, undef, undef, undef, undef, undef, undef, undef, undef, undef, undef] Try.func20 rfl (by kernel_rfl) ?_
  refine wp_seq ?_
  refine wp_region_lit ?_
  refine ql (.bool false) (by kernel_rfl) (by kernel_rfl) ?_
  refine wpList_nil ?_
  refine x_then ?_
  refine wp_seq ?_
  refine wp_region_lit ?_
  refine ql (.pointer (some ⟨k, 0, none⟩)) (by kernel_rfl) (by kernel_rfl) ?_
  refine ql (.int .i64 a) (by kernel_rfl) (by kernel_rfl) ?_
  refine ql (.int .i64 c) (by kernel_rfl) (by kernel_rfl) ?_
  refine qc (f := 21) (args := #[.pointer (some ⟨k, 0, none⟩), .int .i64 a, .int .i64 c]) (by kernel_rfl) (R_call #[.pointer (some ⟨k, 0, none⟩), .int .i64 a, .int .i64 c] Try.func21 (by kernel_rfl) (by kernel_rfl) (by kernel_rfl)) ?_
  refine (khas0 k a c _ (HS.old0 hk0)).mono ?_
  rintro e W1 ⟨rfl, H_⟩
  refine ⟨_, rfl, ?_⟩
  replace HS : St W (owns []) W1 [] := HS.join (F := []) (G := []) H_
  clear H_
  refine ql (.bool false) (by kernel_rfl) (by kernel_rfl) ?_
  refine qln (by kernel_rfl) ?_
  refine qln (by kernel_rfl) ?_
  refine qln (by kernel_rfl) ?_
  refine qln (by kernel_rfl) ?_
  refine ql (.bool false) (by kernel_rfl) (by kernel_rfl) ?_
  refine ql (.bool false) (by kernel_rfl) (by kernel_rfl) ?_
  refine wpList_nil ?_
  refine x_then ?_
  refine wp_ret ?_
  refine ret_ (.bool false) (by kernel_rfl) ?_
  exact ⟨rfl, HS⟩

set_option maxRecDepth 100000 in
set_option maxHeartbeats 1000000 in
theorem ksubs0 (k : Nat) (a : Int) (W : World) (hk0 : W.cell? ⟨k, 0, none⟩ = some (.int .i64 0)) : Calls Try.prog 22 #[.pointer (some ⟨k, 0, none⟩), .int .i64 a] W fun e W' => e = .returned (.slice none 0 0) ∧ St W (owns []) W' [] := by
  have HS : St W (owns []) W [] := St.start W _
  refine calls_enter [.pointer (some ⟨k, 0, none⟩), .int .i64 a, undef, undef, undef, undef, undef, undef, undef, undef, undef, undef, undef, undef, undef, undef, undef, undef, undef, undef, undef, undef] Try.func22 rfl (by kernel_rfl) ?_
  refine wp_seq ?_
  refine wp_region_lit ?_
  refine ql (.slice none 0 0) (by kernel_rfl) (by kernel_rfl) ?_
  refine wpList_nil ?_
  refine x_then ?_
  refine wp_seq ?_
  refine wp_region_lit ?_
  refine ql (.slice none 0 0) (by kernel_rfl) (by kernel_rfl) ?_
  refine wpList_nil ?_
  refine x_then ?_
  refine wp_seq ?_
  refine wp_seq ?_
  refine wp_region_lit ?_
  refine ql (.pointer (some ⟨k, 0, none⟩)) (by kernel_rfl) (by kernel_rfl) ?_
  refine qc (f := 36) (args := #[.pointer (some ⟨k, 0, none⟩)]) (by kernel_rfl) (R_call #[.pointer (some ⟨k, 0, none⟩)] Try.func36 (by kernel_rfl) (by kernel_rfl) (by kernel_rfl)) ?_
  refine (klen k 0 _ (HS.old0 hk0)).mono ?_
  rintro e W1 ⟨rfl, H_⟩
  refine ⟨_, rfl, ?_⟩
  replace HS : St W (owns []) W1 [] := HS.join (F := []) (G := []) H_
  clear H_
  refine ql (.int .i64 0) (by kernel_rfl) (by kernel_rfl) ?_
  refine wpList_nil ?_
  refine x_then ?_
  refine wp_block ?_
  refine wp_loop_ghost (fun kq a' w' => ∃ (J2 : Nat → Value) , a' = Fr [.pointer (some ⟨k, 0, none⟩), .int .i64 a, undef, undef, .slice none 0 0, .slice none 0 0, (J2 6), .pointer (some ⟨k, 0, none⟩), .int .i64 0, .int .i64 0, (J2 10), (J2 11), (J2 12), (J2 13), (J2 14), (J2 15), (J2 16), (J2 17), (J2 18), (J2 19), (J2 20), undef] ∧ kq = (0) ∧ St W (owns []) w' []) (0) ⟨(fun k_ : Nat => List.getD [.pointer (some ⟨k, 0, none⟩), .int .i64 a, undef, undef, .slice none 0 0, .slice none 0 0, undef, .pointer (some ⟨k, 0, none⟩), .int .i64 0, .int .i64 0, undef, undef, undef, undef, undef, undef, undef, undef, undef, undef, undef, undef] k_ undef), congrArg Fr (by kernel_rfl), rfl, HS⟩ ?_
  clear HS
  intro kq3 a' W4 hrel
  obtain ⟨J2, rfl, hk, HS⟩ := hrel
  refine wp_seq ?_
  refine wp_region_lit ?_
  refine ql (.bool false) (by kernel_rfl) (R_beq (b := decide ((0 : Int) < 0)) (by kernel_rfl) (by decide)) ?_
  refine wpList_nil ?_
  refine x_then ?_
  refine wp_seq ?_
  refine wp_cond_false (by kernel_rfl) ?_
  refine wp_exit ?_
  refine x_thenE ?_
  refine x_thenE ?_
  refine x_hit ?_
  refine x_then ?_
  refine wp_seq ?_
  refine wp_region_lit ?_
  refine ql (.slice none 0 0) (by kernel_rfl) (by kernel_rfl) ?_
  refine ql (.slice none 0 0) (by kernel_rfl) (by kernel_rfl) ?_
  refine wpList_nil ?_
  refine x_then ?_
  refine wp_ret ?_
  refine ret_ (.slice none 0 0) (by kernel_rfl) ?_
  exact ⟨rfl, HS⟩

set_option maxRecDepth 100000 in
set_option maxHeartbeats 1000000 in
theorem ksups0 (k : Nat) (a : Int) (W : World) (hk0 : W.cell? ⟨k, 0, none⟩ = some (.int .i64 0)) : Calls Try.prog 23 #[.pointer (some ⟨k, 0, none⟩), .int .i64 a] W fun e W' => e = .returned (.slice none 0 0) ∧ St W (owns []) W' [] := by
  have HS : St W (owns []) W [] := St.start W _
  refine calls_enter [.pointer (some ⟨k, 0, none⟩), .int .i64 a, undef, undef, undef, undef, undef, undef, undef, undef, undef, undef, undef, undef, undef, undef, undef, undef, undef, undef, undef, undef] Try.func23 rfl (by kernel_rfl) ?_
  refine wp_seq ?_
  refine wp_region_lit ?_
  refine ql (.slice none 0 0) (by kernel_rfl) (by kernel_rfl) ?_
  refine wpList_nil ?_
  refine x_then ?_
  refine wp_seq ?_
  refine wp_region_lit ?_
  refine ql (.slice none 0 0) (by kernel_rfl) (by kernel_rfl) ?_
  refine wpList_nil ?_
  refine x_then ?_
  refine wp_seq ?_
  refine wp_seq ?_
  refine wp_region_lit ?_
  refine ql (.pointer (some ⟨k, 0, none⟩)) (by kernel_rfl) (by kernel_rfl) ?_
  refine qc (f := 36) (args := #[.pointer (some ⟨k, 0, none⟩)]) (by kernel_rfl) (R_call #[.pointer (some ⟨k, 0, none⟩)] Try.func36 (by kernel_rfl) (by kernel_rfl) (by kernel_rfl)) ?_
  refine (klen k 0 _ (HS.old0 hk0)).mono ?_
  rintro e W1 ⟨rfl, H_⟩
  refine ⟨_, rfl, ?_⟩
  replace HS : St W (owns []) W1 [] := HS.join (F := []) (G := []) H_
  clear H_
  refine ql (.int .i64 0) (by kernel_rfl) (by kernel_rfl) ?_
  refine wpList_nil ?_
  refine x_then ?_
  refine wp_block ?_
  refine wp_loop_ghost (fun kq a' w' => ∃ (J2 : Nat → Value) , a' = Fr [.pointer (some ⟨k, 0, none⟩), .int .i64 a, undef, undef, .slice none 0 0, .slice none 0 0, (J2 6), .pointer (some ⟨k, 0, none⟩), .int .i64 0, .int .i64 0, (J2 10), (J2 11), (J2 12), (J2 13), (J2 14), (J2 15), (J2 16), (J2 17), (J2 18), (J2 19), (J2 20), undef] ∧ kq = (0) ∧ St W (owns []) w' []) (0) ⟨(fun k_ : Nat => List.getD [.pointer (some ⟨k, 0, none⟩), .int .i64 a, undef, undef, .slice none 0 0, .slice none 0 0, undef, .pointer (some ⟨k, 0, none⟩), .int .i64 0, .int .i64 0, undef, undef, undef, undef, undef, undef, undef, undef, undef, undef, undef, undef] k_ undef), congrArg Fr (by kernel_rfl), rfl, HS⟩ ?_
  clear HS
  intro kq3 a' W4 hrel
  obtain ⟨J2, rfl, hk, HS⟩ := hrel
  refine wp_seq ?_
  refine wp_region_lit ?_
  refine ql (.bool false) (by kernel_rfl) (R_beq (b := decide ((0 : Int) < 0)) (by kernel_rfl) (by decide)) ?_
  refine wpList_nil ?_
  refine x_then ?_
  refine wp_seq ?_
  refine wp_cond_false (by kernel_rfl) ?_
  refine wp_exit ?_
  refine x_thenE ?_
  refine x_thenE ?_
  refine x_hit ?_
  refine x_then ?_
  refine wp_seq ?_
  refine wp_region_lit ?_
  refine ql (.slice none 0 0) (by kernel_rfl) (by kernel_rfl) ?_
  refine ql (.slice none 0 0) (by kernel_rfl) (by kernel_rfl) ?_
  refine wpList_nil ?_
  refine x_then ?_
  refine wp_ret ?_
  refine ret_ (.slice none 0 0) (by kernel_rfl) ?_
  exact ⟨rfl, HS⟩

set_option maxRecDepth 100000 in
set_option maxHeartbeats 1000000 in
theorem kbnd0 (k : Nat) (W : World) (hk0 : W.cell? ⟨k, 0, none⟩ = some (.int .i64 0)) : Calls Try.prog 41 #[.pointer (some ⟨k, 0, none⟩)] W fun e W' => e = .returned (.slice none 0 0) ∧ St W (owns []) W' [] := by
  have HS : St W (owns []) W [] := St.start W _
  refine calls_enter [.pointer (some ⟨k, 0, none⟩), undef, undef, undef, undef, undef, undef, undef, undef, undef, undef, undef, undef, undef, undef, undef, undef, undef, undef, undef, undef, undef, undef, undef, undef, undef, undef, undef, undef, undef, undef, undef] Try.func41 rfl (by kernel_rfl) ?_
  refine wp_seq ?_
  refine wp_region_lit ?_
  refine ql (.slice none 0 0) (by kernel_rfl) (by kernel_rfl) ?_
  refine wpList_nil ?_
  refine x_then ?_
  refine wp_seq ?_
  refine wp_region_lit ?_
  refine ql (.slice none 0 0) (by kernel_rfl) (by kernel_rfl) ?_
  refine wpList_nil ?_
  refine x_then ?_
  refine wp_seq ?_
  refine wp_seq ?_
  refine wp_region_lit ?_
  refine ql (.int .i64 1) (by kernel_rfl) (by kernel_rfl) ?_
  refine wpList_nil ?_
  refine x_then ?_
  refine wp_block ?_
  refine wp_loop_ghost (fun kq a' w' => ∃ (J1 : Nat → Value) , a' = Fr [.pointer (some ⟨k, 0, none⟩), undef, .slice none 0 0, .slice none 0 0, .int .i64 1, undef, (J1 6), (J1 7), (J1 8), (J1 9), (J1 10), (J1 11), (J1 12), (J1 13), (J1 14), (J1 15), (J1 16), (J1 17), (J1 18), (J1 19), (J1 20), (J1 21), (J1 22), (J1 23), (J1 24), (J1 25), (J1 26), (J1 27), (J1 28), (J1 29), (J1 30), undef] ∧ kq = (0) ∧ St W (owns []) w' []) (0) ⟨(fun k_ : Nat => List.getD [.pointer (some ⟨k, 0, none⟩), undef, .slice none 0 0, .slice none 0 0, .int .i64 1, undef, undef, undef, undef, undef, undef, undef, undef, undef, undef, undef, undef, undef, undef, undef, undef, undef, undef, undef, undef, undef, undef, undef, undef, undef, undef, undef] k_ undef), congrArg Fr (by kernel_rfl), rfl, HS⟩ ?_
  clear HS
  intro kq2 a' W3 hrel
  obtain ⟨J1, rfl, hk, HS⟩ := hrel
  refine wp_seq ?_
  refine wp_seq ?_
  refine wp_region_lit ?_
  refine ql (.int .i64 1) (by kernel_rfl) (by kernel_rfl) ?_
  refine ql (.pointer (some ⟨k, 0, none⟩)) (by kernel_rfl) (by kernel_rfl) ?_
  refine qc (f := 36) (args := #[.pointer (some ⟨k, 0, none⟩)]) (by kernel_rfl) (R_call #[.pointer (some ⟨k, 0, none⟩)] Try.func36 (by kernel_rfl) (by kernel_rfl) (by kernel_rfl)) ?_
  refine (klen k 0 _ (HS.old0 hk0)).mono ?_
  rintro e W4 ⟨rfl, H_⟩
  refine ⟨_, rfl, ?_⟩
  replace HS : St W (owns []) W4 [] := HS.join (F := []) (G := []) H_
  clear H_
  refine ql (.bool false) (by kernel_rfl) (R_beq (b := decide ((1 : Int) < 0)) (by kernel_rfl) (by decide)) ?_
  refine wpList_nil ?_
  refine x_then ?_
  refine wp_cond_false (by kernel_rfl) ?_
  refine wp_exit ?_
  refine x_thenE ?_
  refine x_thenE ?_
  refine x_hit ?_
  refine x_then ?_
  refine wp_seq ?_
  refine wp_region_lit ?_
  refine ql (.slice none 0 0) (by kernel_rfl) (by kernel_rfl) ?_
  refine ql (.slice none 0 0) (by kernel_rfl) (by kernel_rfl) ?_
  refine wpList_nil ?_
  refine x_then ?_
  refine wp_ret ?_
  refine ret_ (.slice none 0 0) (by kernel_rfl) ?_
  exact ⟨rfl, HS⟩

set_option maxRecDepth 100000 in
set_option maxHeartbeats 1000000 in
theorem kcl690 (k kv : Nat) (l : List (Int × Int)) (x : Int × Int) (W : World) (hkv : W.cell? ⟨kv, 0, none⟩ = some (.pointer (some ⟨k, 0, none⟩))) (hk0 : W.cell? ⟨k, 0, none⟩ = some (.int .i64 0)) : Calls Try.prog 69 #[.agg #[.int .i64 x.1, .int .i64 x.2], .pointer (some ⟨kv, 0, none⟩)] W fun e W' => e = .returned (.bool (!knB 0 l x.1 x.2)) ∧ St W (owns []) W' [] := by
  have HS : St W (owns []) W [] := St.start W _
  refine calls_enter [.agg #[.int .i64 x.1, .int .i64 x.2], .pointer (some ⟨kv, 0, none⟩), undef, undef, undef, undef, undef, undef, undef, undef, undef] Try.func69 rfl (by kernel_rfl) ?_
  refine wp_seq ?_
  refine wp_region_lit ?_
  refine kb HS [.int .i64 x.1, .int .i64 x.2] 79 (fun g => .pointer (some ⟨g, 0, none⟩)) (by kernel_rfl) (by kernel_rfl) ?_
  intro g1 W2 H_
  replace HS : St W (owns []) W2 [blk g1 [.int .i64 x.1, .int .i64 x.2] 79] := H_
  clear H_
  refine ql (.bool false) (by kernel_rfl) (by kernel_rfl) ?_
  refine wpList_nil ?_
  refine x_then ?_
  refine wp_seq ?_
  refine wp_region_lit ?_
  refine ql (.pointer (some ⟨k, 0, none⟩)) (by kernel_rfl) (R_load (p := ⟨kv, 0, none⟩) (by kernel_rfl) (by kernel_rfl) (by kernel_rfl) (HS.old0 hkv)) ?_
  refine ql (.pointer (some ⟨g1, 0, none⟩)) (by kernel_rfl) (by kernel_rfl) ?_
  refine ql (.int .i64 x.1) (by kernel_rfl) (R_load (p := ⟨g1, 0, none⟩) (by kernel_rfl) (by kernel_rfl) (by kernel_rfl) (HS.cell (i := 0) (j := 0) rfl rfl)) ?_
  refine ql (.pointer (some ⟨g1, 1, none⟩)) (by kernel_rfl) (by kernel_rfl) ?_
  refine ql (.int .i64 x.2) (by kernel_rfl) (R_load (p := ⟨g1, 1, none⟩) (by kernel_rfl) (by kernel_rfl) (by kernel_rfl) (HS.cell (i := 0) (j := 1) rfl rfl)) ?_
  refine qc (f := 21) (args := #[.pointer (some ⟨k, 0, none⟩), .int .i64 x.1, .int .i64 x.2]) (by kernel_rfl) (R_call #[.pointer (some ⟨k, 0, none⟩), .int .i64 x.1, .int .i64 x.2] Try.func21 (by kernel_rfl) (by kernel_rfl) (by kernel_rfl)) ?_
  refine (khas0 k x.1 x.2 _ (HS.old0 hk0)).mono ?_
  rintro e W3 ⟨rfl, H_⟩
  refine ⟨_, rfl, ?_⟩
  replace HS : St W (owns []) W3 [blk g1 [.int .i64 x.1, .int .i64 x.2] 79] := HS.join (F := []) (G := []) H_
  clear H_
  refine ql (.bool true) (by kernel_rfl) (by kernel_rfl) ?_
  refine ql (.bool true) (by kernel_rfl) (by kernel_rfl) ?_
  refine wpList_nil ?_
  refine x_then ?_
  refine wp_ret ?_
  refine ret_ (.bool true) (by kernel_rfl) ?_
  replace HS := HS.drop1
  exact ⟨by rw [knB_0]; rfl, HS⟩

set_option maxRecDepth 100000 in
set_option maxHeartbeats 1000000 in
theorem kall0 (k : Nat) (l : List (Int × Int)) (Am : Option Addr) (cm : Nat) (m : List (Int × Int)) (W : World) (hk0 : W.cell? ⟨k, 0, none⟩ = some (.int .i64 0)) (hra : Rd W Am (cf prC m)) (hlm : m.length ≤ 10000) : Calls Try.prog 38 #[.pointer (some ⟨k, 0, none⟩), .slice Am m.length cm] W fun e W' => e = .returned (.bool (allK 0 l m)) ∧ St W (owns []) W' [] := by
  have HS : St W (owns []) W [] := St.start W _
  refine calls_enter [.pointer (some ⟨k, 0, none⟩), .slice Am m.length cm, undef, undef, undef, undef, undef, undef, undef] Try.func38 rfl (by kernel_rfl) ?_
  refine wp_seq ?_
  refine wp_region_lit ?_
  refine kb HS [.pointer (some ⟨k, 0, none⟩)] 35 (fun g => .pointer (some ⟨g, 0, none⟩)) (by kernel_rfl) (by kernel_rfl) ?_
  intro g1 W2 H_
  replace HS : St W (owns []) W2 [blk g1 [.pointer (some ⟨k, 0, none⟩)] 35] := H_
  clear H_
  refine ql (.bool false) (by kernel_rfl) (by kernel_rfl) ?_
  refine wpList_nil ?_
  refine x_then ?_
  refine wp_seq ?_
  refine wp_region_lit ?_
  refine ql (.slice Am m.length cm) (by kernel_rfl) (by kernel_rfl) ?_
  refine ql (.func (.func 69) #[] #[.pointer (some ⟨g1, 0, none⟩)]) (by kernel_rfl) (by kernel_rfl) ?_
  refine qc (f := 68) (args := #[.slice Am m.length cm, .func (.func 69) #[] #[.pointer (some ⟨g1, 0, none⟩)]]) (by kernel_rfl) (R_call #[.slice Am m.length cm, .func (.func 69) #[] #[.pointer (some ⟨g1, 0, none⟩)]] Try.func68 (by kernel_rfl) (by kernel_rfl) (by kernel_rfl)) ?_
  by_cases hany : m.any (fun b : Int × Int => !knB 0 l b.1 b.2) = true
  · skip
    have hKP : ∀ w, Kpt (owns []) W2 w → St W (owns []) w [] ∧ w.cell? ⟨g1, 0, none⟩ = some (.pointer (some ⟨k, 0, none⟩)) := fun w hw => ⟨St.ofK (HS.kept.andNil hw), cell_of_blkP (HS.keepP (F := []) hw (List.mem_of_getElem? (i := 0) rfl)) rfl⟩
    refine (conf 69 #[.pointer (some ⟨g1, 0, none⟩)] (fun b : Int × Int => !knB 0 l b.1 b.2) Am cm m _ (hra.old0 HS) (by omega) (enters_of Try.func69 (by kernel_rfl) rfl) (fun x w hw => kcl690 k g1 l x w (hKP w hw).2 ((hKP w hw).1.old0 hk0))).mono ?_
    rintro e W3 ⟨rfl, H_⟩
    rw [hany]
    refine ⟨_, rfl, ?_⟩
    replace HS : St W (owns []) W3 [blk g1 [.pointer (some ⟨k, 0, none⟩)] 35] := HS.join (F := []) (G := []) H_
    clear H_
    refine ql (.bool false) (by kernel_rfl) (by kernel_rfl) ?_
    refine ql (.bool false) (by kernel_rfl) (by kernel_rfl) ?_
    refine wpList_nil ?_
    refine x_then ?_
    refine wp_ret ?_
    refine ret_ (.bool false) (by kernel_rfl) ?_
    replace HS := HS.drop1
    exact ⟨by rw [← allK_any, hany]; rfl, HS⟩
  · skip
    have hKP : ∀ w, Kpt (owns []) W2 w → St W (owns []) w [] ∧ w.cell? ⟨g1, 0, none⟩ = some (.pointer (some ⟨k, 0, none⟩)) := fun w hw => ⟨St.ofK (HS.kept.andNil hw), cell_of_blkP (HS.keepP (F := []) hw (List.mem_of_getElem? (i := 0) rfl)) rfl⟩
    refine (conf 69 #[.pointer (some ⟨g1, 0, none⟩)] (fun b : Int × Int => !knB 0 l b.1 b.2) Am cm m _ (hra.old0 HS) (by omega) (enters_of Try.func69 (by kernel_rfl) rfl) (fun x w hw => kcl690 k g1 l x w (hKP w hw).2 ((hKP w hw).1.old0 hk0))).mono ?_
    rintro e W4 ⟨rfl, H_⟩
    rw [Bool.eq_false_iff.2 hany]
    refine ⟨_, rfl, ?_⟩
    replace HS : St W (owns []) W4 [blk g1 [.pointer (some ⟨k, 0, none⟩)] 35] := HS.join (F := []) (G := []) H_
    clear H_
    refine ql (.bool true) (by kernel_rfl) (by kernel_rfl) ?_
    refine ql (.bool true) (by kernel_rfl) (by kernel_rfl) ?_
    refine wpList_nil ?_
    refine x_then ?_
    refine wp_ret ?_
    refine ret_ (.bool true) (by kernel_rfl) ?_
    replace HS := HS.drop1
    exact ⟨by rw [← allK_any, Bool.eq_false_iff.2 hany]; rfl, HS⟩


end Go.Proofs.Ytdiodmdohkjafaa.GDeclTells
