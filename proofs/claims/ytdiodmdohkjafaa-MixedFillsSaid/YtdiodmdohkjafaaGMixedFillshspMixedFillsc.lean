/- Written for this claim by gp.py, a program of this session's, over the kit's print. Lean checks it. -/
import Derived.Test.YtdiodmdohkjafaaGMixedFillsx0
import Derived.Test.YtdiodmdohkjafaaGMixedFillshspMixedFillsa
import Derived.Test.YtdiodmdohkjafaaGMixedFillshspMixedFillsb
import Derived.WalkKit
import Derived.StillTailTactics
import Derived.Deep.LoopGhost
import Derived.KernelRfl
import Derived.Deep.OwnRows
import Derived.Laws.OwnMore
import Derived.Laws.MakeOwn
import Derived.Maps.AppendAt
import Derived.OrdersHeld
import Derived.Lib.TrailingZeros
import Derived.Laws.Bits64b
import Derived.Laws.BitsLemmas
import Derived.Laws.Entries
import Derived.RangeFuncWrites
import Derived.RangeFuncLeaves
import Derived.RangeFuncCalls
import Derived.Shelf.Abstract
import Derived.Laws.CopyRow
import Derived.Lib.Overlaps
import Derived.Lib.AppendZerosOnto
import Derived.Lib.SliceRun
import Derived.Laws.IdiomCopy
import Derived.ArgAppend
import Derived.Conc.EntryLaws
import Derived.Maps.OwnSet
import Derived.Maps.Keyed
import Derived.Maps.Views
namespace Go.Proofs.Ytdiodmdohkjafaa.GMixedFills
open Go.RowKit Go.Proofs.YtdiodmdohkjafaaW.PrintWords Go.Proofs.YtdiodmdohkjafaaW.PrintLast Go.Proofs.YtdiodmdohkjafaaW.PrintMore
attribute [local go_sem] max2_int min2_int max_two min_two max_three min_three max_four min_four   -- for this text's walks alone
set_option linter.unusedVariables false
set_option linter.unusedSimpArgs false

--import Derived.WalkKit
--import Derived.StillTailTactics
--import Derived.Deep.LoopGhost
--import Derived.KernelRfl
--import Derived.Deep.OwnRows
--import Derived.Laws.OwnMore
--import Derived.Laws.MakeOwn
--import Derived.Maps.AppendAt
--import Derived.OrdersHeld
--import Derived.Lib.TrailingZeros
--import Derived.Laws.Bits64b
--import Derived.Laws.BitsLemmas
--import Derived.Laws.Entries
--import Derived.RangeFuncWrites
--import Derived.RangeFuncLeaves
--import Derived.RangeFuncCalls
--import Derived.Shelf.Abstract
--import Derived.Laws.CopyRow
--import Derived.Lib.Overlaps
--import Derived.Lib.AppendZerosOnto
--import Derived.Lib.SliceRun
--import Derived.Laws.IdiomCopy
--import Derived.ArgAppend
--import Derived.Conc.EntryLaws
--import Derived.Maps.OwnSet
--import Derived.Maps.Keyed
--import Derived.Maps.Views
attribute [local irreducible] wpStill wpList Code.wp TA
open Go.Shelf
set_option maxRecDepth 100000 in
set_option maxHeartbeats 1000000 in
theorem lMixedFills (n : Int) (l : List Int) (a b i : Int) (Al : Option Addr) (cl : Nat) (W : World) (hra : Rd W Al (ci .i64 l)) : Calls Try.prog 9 #[.int .i64 n, .slice Al l.length cl, .int .i64 a, .int .i64 b, .int .i64 i] W fun e W' => e = .returned (.bool true) ∧ St W (owns []) W' [] := by
  have HS : St W (owns []) W [] := St.start W _
  refine calls_enter ((.int .i64 n) :: (.slice Al l.length cl) :: (.int .i64 a) :: (.int .i64 b) :: (.int .i64 i) :: undef :: undef :: undef :: undef :: undef :: undef :: undef :: undef :: undef :: undef :: undef :: undef :: undef :: undef :: undef :: undef :: undef :: undef :: undef :: undef :: undef :: undef :: undef :: undef :: undef :: undef :: undef :: undef :: undef :: undef :: undef :: undef :: undef :: undef :: undef :: undef :: undef :: undef :: undef :: undef :: undef :: undef :: undef :: undef :: undef :: undef :: undef :: undef :: undef :: undef :: undef :: undef :: undef :: undef :: undef :: undef :: undef :: undef :: undef :: undef :: undef :: undef :: undef :: undef :: undef :: undef :: undef :: undef :: undef :: undef :: undef :: undef :: undef :: undef :: undef :: undef :: undef :: undef :: undef :: undef :: undef :: undef :: undef :: undef :: undef :: undef :: undef :: undef :: undef :: undef :: undef :: undef :: undef :: undef :: undef :: undef :: undef :: undef :: undef :: undef :: undef :: undef :: undef :: undef :: undef :: undef :: undef :: undef :: undef :: undef :: undef :: undef :: undef :: undef :: []) Try.func9 rfl (by kernel_rfl) ?_
  refine wp_seq ?_
  refine wp_region_lit ?_
  refine ql (.bool false) (by kernel_rfl) (by kernel_rfl) ?_
  refine wpList_nil ?_
  refine x_then ?_
  refine wp_seq ?_
  refine wp_seq ?_
  refine wp_region_lit ?_
  refine ql (.slice Al l.length cl) (by kernel_rfl) (by kernel_rfl) ?_
  refine ql (.int .i64 (l.length : Int)) (by kernel_rfl) (by kernel_rfl) ?_
  by_cases hc1 : (l.length : Int) > (40 : Int)
  · skip
    refine ql (.bool true) (by kernel_rfl) (R_bool (p := (l.length : Int) > (40 : Int)) (by kernel_rfl) (hc1)) ?_
    refine ql (.bool true) (by kernel_rfl) (by kernel_rfl) ?_
    refine qln (by kernel_rfl) ?_
    refine qln (by kernel_rfl) ?_
    refine ql (.bool true) (by kernel_rfl) (by kernel_rfl) ?_
    refine ql (.bool true) (by kernel_rfl) (by kernel_rfl) ?_
    refine qln (by kernel_rfl) ?_
    refine qln (by kernel_rfl) ?_
    refine ql (.bool true) (by kernel_rfl) (by kernel_rfl) ?_
    refine wpList_nil ?_
    refine x_then ?_
    refine wp_cond_true (by kernel_rfl) ?_
    refine wp_seq ?_
    refine wp_region_lit ?_
    refine qc (f := 43) (args := #[]) (by kernel_rfl) (R_call #[] Try.func43 (by kernel_rfl) (by kernel_rfl) (by kernel_rfl)) ?_
    refine (mawake _).mono ?_
    rintro e W2 ⟨rfl, H_⟩
    refine ⟨_, rfl, ?_⟩
    replace HS : St W (owns []) W2 [] := HS.join (F := []) (G := []) H_
    clear H_
    refine ql (.bool true) (by kernel_rfl) (by kernel_rfl) ?_
    refine wpList_nil ?_
    refine x_then ?_
    refine wp_ret ?_
    refine x_thenR ?_
    refine ret_ (.bool true) (by kernel_rfl) ?_
    exact ⟨rfl, HS⟩
  · skip
    refine ql (.bool false) (by kernel_rfl) (R_nbool (p := (l.length : Int) > (40 : Int)) (by kernel_rfl) (hc1)) ?_
    refine ql (.bool false) (by kernel_rfl) (by kernel_rfl) ?_
    refine ql (.int .i64 n) (by kernel_rfl) (by kernel_rfl) ?_
    by_cases hc3 : n < (0 : Int)
    · skip
      refine ql (.bool true) (by kernel_rfl) (R_bool (p := n < (0 : Int)) (by kernel_rfl) (hc3)) ?_
      refine ql (.bool true) (by kernel_rfl) (by kernel_rfl) ?_
      refine ql (.bool true) (by kernel_rfl) (by kernel_rfl) ?_
      refine qln (by kernel_rfl) ?_
      refine qln (by kernel_rfl) ?_
      refine ql (.bool true) (by kernel_rfl) (by kernel_rfl) ?_
      refine wpList_nil ?_
      refine x_then ?_
      refine wp_cond_true (by kernel_rfl) ?_
      refine wp_seq ?_
      refine wp_region_lit ?_
      refine qc (f := 43) (args := #[]) (by kernel_rfl) (R_call #[] Try.func43 (by kernel_rfl) (by kernel_rfl) (by kernel_rfl)) ?_
      refine (mawake _).mono ?_
      rintro e W4 ⟨rfl, H_⟩
      refine ⟨_, rfl, ?_⟩
      replace HS : St W (owns []) W4 [] := HS.join (F := []) (G := []) H_
      clear H_
      refine ql (.bool true) (by kernel_rfl) (by kernel_rfl) ?_
      refine wpList_nil ?_
      refine x_then ?_
      refine wp_ret ?_
      refine x_thenR ?_
      refine ret_ (.bool true) (by kernel_rfl) ?_
      exact ⟨rfl, HS⟩
    · skip
      refine ql (.bool false) (by kernel_rfl) (R_nbool (p := n < (0 : Int)) (by kernel_rfl) (hc3)) ?_
      refine ql (.bool false) (by kernel_rfl) (by kernel_rfl) ?_
      refine ql (.bool false) (by kernel_rfl) (by kernel_rfl) ?_
      refine ql (.int .i64 n) (by kernel_rfl) (by kernel_rfl) ?_
      by_cases hc5 : n > (200 : Int)
      · skip
        refine ql (.bool true) (by kernel_rfl) (R_bool (p := n > (200 : Int)) (by kernel_rfl) (hc5)) ?_
        refine ql (.bool true) (by kernel_rfl) (by kernel_rfl) ?_
        refine wpList_nil ?_
        refine x_then ?_
        refine wp_cond_true (by kernel_rfl) ?_
        refine wp_seq ?_
        refine wp_region_lit ?_
        refine qc (f := 43) (args := #[]) (by kernel_rfl) (R_call #[] Try.func43 (by kernel_rfl) (by kernel_rfl) (by kernel_rfl)) ?_
        refine (mawake _).mono ?_
        rintro e W6 ⟨rfl, H_⟩
        refine ⟨_, rfl, ?_⟩
        replace HS : St W (owns []) W6 [] := HS.join (F := []) (G := []) H_
        clear H_
        refine ql (.bool true) (by kernel_rfl) (by kernel_rfl) ?_
        refine wpList_nil ?_
        refine x_then ?_
        refine wp_ret ?_
        refine x_thenR ?_
        refine ret_ (.bool true) (by kernel_rfl) ?_
        exact ⟨rfl, HS⟩
      · skip
        refine ql (.bool false) (by kernel_rfl) (R_nbool (p := n > (200 : Int)) (by kernel_rfl) (hc5)) ?_
        refine ql (.bool false) (by kernel_rfl) (by kernel_rfl) ?_
        refine wpList_nil ?_
        refine x_then ?_
        refine wp_cond_false (by kernel_rfl) ?_
        refine wp_skip ?_
        refine x_then ?_
        refine wp_seq ?_
        refine wp_region_lit ?_
        refine ql (.int .i64 n) (by kernel_rfl) (by kernel_rfl) ?_
        refine qc (f := 44) (args := #[.int .i64 n]) (by kernel_rfl) (R_call #[.int .i64 n] Try.func44 (by kernel_rfl) (by kernel_rfl) (by kernel_rfl)) ?_
        refine (mnew_ok n _ (by omega) (by omega)).mono ?_
        rintro e W11 ⟨g7, x8, rfl, H_, hok9, hb10⟩
        refine ⟨_, rfl, ?_⟩
        replace HS : St W (owns []) W11 [many (mxE 100 77 21 113 110 g7 n ([]) x8)] := HS.join (F := []) (G := [many (mxE 100 77 21 113 110 g7 n ([]) x8)]) H_
        clear H_
        refine ql (.tuple #[.pointer (some ⟨g7, 0, none⟩), .int .i64 0]) (by kernel_rfl) (by kernel_rfl) ?_
        refine ql (.pointer (some ⟨g7, 0, none⟩)) (by kernel_rfl) (by kernel_rfl) ?_
        refine ql (.int .i64 0) (by kernel_rfl) (by kernel_rfl) ?_
        refine ql (.pointer (some ⟨g7, 0, none⟩)) (by kernel_rfl) (by kernel_rfl) ?_
        refine ql (.int .i64 0) (by kernel_rfl) (by kernel_rfl) ?_
        refine wpList_nil ?_
        refine x_then ?_
        refine wp_seq ?_
        refine wp_seq ?_
        refine wp_region_lit ?_
        refine ql (.pointer (some ⟨g7, 0, none⟩)) (by kernel_rfl) (by kernel_rfl) ?_
        refine ql (.bool false) (by kernel_rfl) (by kernel_rfl) ?_
        refine ql (.bool false) (by kernel_rfl) (by kernel_rfl) ?_
        refine ql (.int .i64 0) (by kernel_rfl) (by kernel_rfl) ?_
        refine ql (.bool false) (by kernel_rfl) (R_beq (b := ((0 : Int) != 0)) (by kernel_rfl) (by decide)) ?_
        refine ql (.bool false) (by kernel_rfl) (by kernel_rfl) ?_
        refine wpList_nil ?_
        refine x_then ?_
        refine wp_cond_false (by kernel_rfl) ?_
        refine wp_skip ?_
        refine x_then ?_
        refine wp_seq ?_
        refine wp_seq ?_
        refine wp_region_lit ?_
        refine ql (.int .i64 0) (by kernel_rfl) (by kernel_rfl) ?_
        refine wpList_nil ?_
        refine x_then ?_
        refine wp_block ?_
        refine wp_loop_ghost (fun kq a' w' => ∃ (J12 : Nat → Value) (k : Int) (L : List Int) (x : MxF) , a' = Fr ((.int .i64 n) :: (.slice Al l.length cl) :: (.int .i64 a) :: (.int .i64 b) :: (.int .i64 i) :: undef :: undef :: undef :: undef :: undef :: (.bool false) :: (.pointer (some ⟨g7, 0, none⟩)) :: (.int .i64 0) :: (.int .i64 k) :: undef :: undef :: undef :: undef :: (.slice Al l.length cl) :: (.int .i64 (l.length : Int)) :: (.bool false) :: (.bool false) :: (.int .i64 n) :: (.bool false) :: (.bool false) :: (.bool false) :: (.int .i64 n) :: (.bool false) :: (.bool false) :: undef :: (.tuple #[.pointer (some ⟨g7, 0, none⟩), .int .i64 0]) :: (.int .i64 n) :: (.tuple #[.pointer (some ⟨g7, 0, none⟩), .int .i64 0]) :: (.pointer (some ⟨g7, 0, none⟩)) :: (.int .i64 0) :: (.pointer (some ⟨g7, 0, none⟩)) :: (.bool false) :: (.bool false) :: (.int .i64 0) :: (.bool false) :: (.bool false) :: ((J12 41)) :: ((J12 42)) :: ((J12 43)) :: ((J12 44)) :: ((J12 45)) :: ((J12 46)) :: ((J12 47)) :: ((J12 48)) :: ((J12 49)) :: ((J12 50)) :: ((J12 51)) :: ((J12 52)) :: undef :: undef :: undef :: undef :: undef :: undef :: undef :: undef :: undef :: undef :: undef :: undef :: undef :: undef :: undef :: undef :: undef :: undef :: undef :: undef :: undef :: undef :: undef :: undef :: undef :: undef :: undef :: undef :: undef :: undef :: undef :: undef :: undef :: undef :: undef :: undef :: undef :: undef :: undef :: undef :: undef :: undef :: undef :: undef :: undef :: undef :: undef :: undef :: undef :: undef :: undef :: undef :: undef :: undef :: undef :: undef :: undef :: undef :: undef :: undef :: undef :: undef :: undef :: undef :: undef :: undef :: []) ∧ kq = (l.length - (k).toNat) ∧ (0 ≤ k) ∧ (k ≤ l.length) ∧ (x.ok n L) ∧ St W (owns []) w' [many (mxE 100 77 21 113 110 g7 n L x)]) (l.length - ((0 : Int)).toNat) ⟨(fun k_ : Nat => List.getD ((.int .i64 n) :: (.slice Al l.length cl) :: (.int .i64 a) :: (.int .i64 b) :: (.int .i64 i) :: undef :: undef :: undef :: undef :: undef :: (.bool false) :: (.pointer (some ⟨g7, 0, none⟩)) :: (.int .i64 0) :: (.int .i64 0) :: undef :: undef :: undef :: undef :: (.slice Al l.length cl) :: (.int .i64 (l.length : Int)) :: (.bool false) :: (.bool false) :: (.int .i64 n) :: (.bool false) :: (.bool false) :: (.bool false) :: (.int .i64 n) :: (.bool false) :: (.bool false) :: undef :: (.tuple #[.pointer (some ⟨g7, 0, none⟩), .int .i64 0]) :: (.int .i64 n) :: (.tuple #[.pointer (some ⟨g7, 0, none⟩), .int .i64 0]) :: (.pointer (some ⟨g7, 0, none⟩)) :: (.int .i64 0) :: (.pointer (some ⟨g7, 0, none⟩)) :: (.bool false) :: (.bool false) :: (.int .i64 0) :: (.bool false) :: (.bool false) :: undef :: undef :: undef :: undef :: undef :: undef :: undef :: undef :: undef :: undef :: undef :: undef :: undef :: undef :: undef :: undef :: undef :: undef :: undef :: undef :: undef :: undef :: undef :: undef :: undef :: undef :: undef :: undef :: undef :: undef :: undef :: undef :: undef :: undef :: undef :: undef :: undef :: undef :: undef :: undef :: undef :: undef :: undef :: undef :: undef :: undef :: undef :: undef :: undef :: undef :: undef :: undef :: undef :: undef :: undef :: undef :: undef :: undef :: undef :: undef :: undef :: undef :: undef :: undef :: undef :: undef :: undef :: undef :: undef :: undef :: undef :: undef :: undef :: undef :: undef :: undef :: undef :: undef :: []) k_ undef), (0 : Int), [], x8, congrArg Fr (by kernel_rfl), rfl, by omega, by omega, hok9, HS⟩ ?_
        clear HS
        intro kq13 a' W14 hrel
        obtain ⟨J12, k, L, x, rfl, hk, k0, k1, hok, HS⟩ := hrel
        refine wp_seq ?_
        refine wp_seq ?_
        refine wp_region_lit ?_
        refine ql (.int .i64 k) (by kernel_rfl) (by kernel_rfl) ?_
        refine ql (.slice Al l.length cl) (by kernel_rfl) (by kernel_rfl) ?_
        refine ql (.int .i64 (l.length : Int)) (by kernel_rfl) (by kernel_rfl) ?_
        by_cases hc15 : k < (l.length : Int)
        · skip
          refine ql (.bool true) (by kernel_rfl) (R_bool (p := k < (l.length : Int)) (by kernel_rfl) (hc15)) ?_
          refine wpList_nil ?_
          refine x_then ?_
          refine wp_cond_true (by kernel_rfl) ?_
          refine wp_skip ?_
          refine x_then ?_
          refine wp_seq ?_
          refine wp_block ?_
          refine wp_region_lit ?_
          refine ql (.pointer (some ⟨g7, 0, none⟩)) (by kernel_rfl) (by kernel_rfl) ?_
          refine ql (.slice Al l.length cl) (by kernel_rfl) (by kernel_rfl) ?_
          refine ql (.int .i64 k) (by kernel_rfl) (by kernel_rfl) ?_
          obtain ⟨ad16, rfl⟩ := Rd.isSome_ hra (by rw [ci_len]; omega)
          refine ql (.pointer (some (ad16.add k.toNat))) (by kernel_rfl) (R_indexA1 (k := .i64) (p := ad16) (n := l.length) (c := cl) (i := k) (by kernel_rfl) (by kernel_rfl) Try.underlying22 (by kernel_rfl) (by omega) (by omega)) ?_
          refine ql (.int .i64 (rdI l k)) (by kernel_rfl) (R_load (p := ad16.add k.toNat) (by kernel_rfl) (by kernel_rfl) (by kernel_rfl) (HS.old0 (hra.at_ (ci_rd (i := k) (by omega) (by omega))))) ?_
          refine qc (f := 45) (args := #[.pointer (some ⟨g7, 0, none⟩), .int .i64 (rdI l k)]) (by kernel_rfl) (R_call #[.pointer (some ⟨g7, 0, none⟩), .int .i64 (rdI l k)] Try.func45 (by kernel_rfl) (by kernel_rfl) (by kernel_rfl)) ?_
          refine (madd g7 n L x (rdI l k) _ _ (St.focus (F := [many (mxE 100 77 21 113 110 g7 n L x)]) HS) hok (by omega) (by omega)).mono ?_
          rintro e W20 ⟨x17, rfl, H_, hok18, hb19⟩
          refine ⟨_, rfl, ?_⟩
          replace HS : St W (owns []) W20 [many (mxE 100 77 21 113 110 g7 n (addL n L (rdI l k)) x17)] := HS.join (F := [many (mxE 100 77 21 113 110 g7 n L x)]) (G := [many (mxE 100 77 21 113 110 g7 n (addL n L (rdI l k)) x17)]) H_
          clear H_
          refine wpList_nil ?_
          refine x_inb ?_
          refine x_then ?_
          refine wp_region_lit ?_
          refine ql (.int .i64 k) (by kernel_rfl) (by kernel_rfl) ?_
          refine ql (.int .i64 (k + 1)) (by kernel_rfl) (R_int (by kernel_rfl) (w64 (by omega))) ?_
          refine ql (.int .i64 (k + 1)) (by kernel_rfl) (by kernel_rfl) ?_
          refine wpList_nil ?_
          refine x_then ?_
          exact ⟨l.length - (k + 1).toNat, by omega, (fun k_ : Nat => List.getD ((.int .i64 n) :: (.slice (some ad16) l.length cl) :: (.int .i64 a) :: (.int .i64 b) :: (.int .i64 i) :: undef :: undef :: undef :: undef :: undef :: (.bool false) :: (.pointer (some ⟨g7, 0, none⟩)) :: (.int .i64 0) :: (.int .i64 (k + 1)) :: undef :: undef :: undef :: undef :: (.slice (some ad16) l.length cl) :: (.int .i64 (l.length : Int)) :: (.bool false) :: (.bool false) :: (.int .i64 n) :: (.bool false) :: (.bool false) :: (.bool false) :: (.int .i64 n) :: (.bool false) :: (.bool false) :: undef :: (.tuple #[.pointer (some ⟨g7, 0, none⟩), .int .i64 0]) :: (.int .i64 n) :: (.tuple #[.pointer (some ⟨g7, 0, none⟩), .int .i64 0]) :: (.pointer (some ⟨g7, 0, none⟩)) :: (.int .i64 0) :: (.pointer (some ⟨g7, 0, none⟩)) :: (.bool false) :: (.bool false) :: (.int .i64 0) :: (.bool false) :: (.bool false) :: (.int .i64 k) :: (.slice (some ad16) l.length cl) :: (.int .i64 (l.length : Int)) :: (.bool true) :: (.int .i64 k) :: (.int .i64 (k + 1)) :: (.pointer (some ⟨g7, 0, none⟩)) :: (.slice (some ad16) l.length cl) :: (.int .i64 k) :: (.pointer (some (ad16.add k.toNat))) :: (.int .i64 (rdI l k)) :: (.bool (addB n L (rdI l k))) :: undef :: undef :: undef :: undef :: undef :: undef :: undef :: undef :: undef :: undef :: undef :: undef :: undef :: undef :: undef :: undef :: undef :: undef :: undef :: undef :: undef :: undef :: undef :: undef :: undef :: undef :: undef :: undef :: undef :: undef :: undef :: undef :: undef :: undef :: undef :: undef :: undef :: undef :: undef :: undef :: undef :: undef :: undef :: undef :: undef :: undef :: undef :: undef :: undef :: undef :: undef :: undef :: undef :: undef :: undef :: undef :: undef :: undef :: undef :: undef :: undef :: undef :: undef :: undef :: undef :: undef :: []) k_ undef), k + 1, (addL n L (rdI l k)), x17, congrArg Fr (by kernel_rfl), rfl, by omega, by omega, hok18, HS⟩
        · skip
          refine ql (.bool false) (by kernel_rfl) (R_nbool (p := k < (l.length : Int)) (by kernel_rfl) (hc15)) ?_
          refine wpList_nil ?_
          refine x_then ?_
          refine wp_cond_false (by kernel_rfl) ?_
          refine wp_exit ?_
          refine x_thenE ?_
          refine x_thenE ?_
          refine x_hit ?_
          refine x_then ?_
          refine wp_seq ?_
          refine wp_region_lit ?_
          refine ql (.pointer (some ⟨g7, 0, none⟩)) (by kernel_rfl) (by kernel_rfl) ?_
          refine ql (.int .i64 i) (by kernel_rfl) (by kernel_rfl) ?_
          refine qc (f := 46) (args := #[.pointer (some ⟨g7, 0, none⟩), .int .i64 i]) (by kernel_rfl) (R_call #[.pointer (some ⟨g7, 0, none⟩), .int .i64 i] Try.func46 (by kernel_rfl) (by kernel_rfl) (by kernel_rfl)) ?_
          by_cases had : i ∈ L
          · skip
            refine (mhas g7 n L x i _ (HS.hasP (i := 0) rfl) hok (by omega) (by omega)).mono ?_
            rintro e W21 ⟨rfl, H_⟩
            rw [decide_eq_true had]
            refine ⟨_, rfl, ?_⟩
            replace HS : St W (owns []) W21 [many (mxE 100 77 21 113 110 g7 n L x)] := HS.join (F := []) (G := []) H_
            clear H_
            refine ql (.bool true) (by kernel_rfl) (by kernel_rfl) ?_
            refine wpList_nil ?_
            refine x_then ?_
            refine wp_seq ?_
            refine wp_region_lit ?_
            refine ql (.pointer (some ⟨g7, 0, none⟩)) (by kernel_rfl) (by kernel_rfl) ?_
            refine qc (f := 47) (args := #[.pointer (some ⟨g7, 0, none⟩)]) (by kernel_rfl) (R_call #[.pointer (some ⟨g7, 0, none⟩)] Try.func47 (by kernel_rfl) (by kernel_rfl) (by kernel_rfl)) ?_
            have hll22 := hok.len (by omega)
            refine (mlen g7 n L x _ (HS.hasP (i := 0) rfl) hok (by omega) (by omega)).mono ?_
            rintro e W23 ⟨rfl, H_⟩
            refine ⟨_, rfl, ?_⟩
            replace HS : St W (owns []) W23 [many (mxE 100 77 21 113 110 g7 n L x)] := HS.join (F := []) (G := []) H_
            clear H_
            refine ql (.int .i64 (L.length : Int)) (by kernel_rfl) (by kernel_rfl) ?_
            refine wpList_nil ?_
            refine x_then ?_
            refine wp_seq ?_
            refine wp_region_lit ?_
            refine ql (.pointer (some ⟨g7, 0, none⟩)) (by kernel_rfl) (by kernel_rfl) ?_
            refine ql (.int .i64 a) (by kernel_rfl) (by kernel_rfl) ?_
            refine ql (.int .i64 b) (by kernel_rfl) (by kernel_rfl) ?_
            refine qc (f := 48) (args := #[.pointer (some ⟨g7, 0, none⟩), .int .i64 a, .int .i64 b]) (by kernel_rfl) (R_call #[.pointer (some ⟨g7, 0, none⟩), .int .i64 a, .int .i64 b] Try.func48 (by kernel_rfl) (by kernel_rfl) (by kernel_rfl)) ?_
            have hge := filL_ge n a b L
            refine (mfill g7 n L x a b _ _ (St.focus (F := [many (mxE 100 77 21 113 110 g7 n L x)]) HS) hok (by omega) (by omega)).mono ?_
            rintro e W27 ⟨x24, rfl, H_, hok25, hb26⟩
            refine ⟨_, rfl, ?_⟩
            replace HS : St W (owns []) W27 [many (mxE 100 77 21 113 110 g7 n (filL n L a b) x24)] := HS.join (F := [many (mxE 100 77 21 113 110 g7 n L x)]) (G := [many (mxE 100 77 21 113 110 g7 n (filL n L a b) x24)]) H_
            clear H_
            refine wpList_nil ?_
            refine x_then ?_
            refine wp_seq ?_
            refine wp_region_lit ?_
            refine ql (.int .i64 i) (by kernel_rfl) (by kernel_rfl) ?_
            refine ql (.int .i64 a) (by kernel_rfl) (by kernel_rfl) ?_
            by_cases hc28 : i ≥ a
            · skip
              refine ql (.bool true) (by kernel_rfl) (R_bool (p := i ≥ a) (by kernel_rfl) (hc28)) ?_
              refine ql (.bool true) (by kernel_rfl) (by kernel_rfl) ?_
              refine ql (.int .i64 i) (by kernel_rfl) (by kernel_rfl) ?_
              refine ql (.int .i64 b) (by kernel_rfl) (by kernel_rfl) ?_
              by_cases hc29 : i < b
              · skip
                refine ql (.bool true) (by kernel_rfl) (R_bool (p := i < b) (by kernel_rfl) (hc29)) ?_
                refine ql (.bool true) (by kernel_rfl) (by kernel_rfl) ?_
                refine ql (.bool true) (by kernel_rfl) (by kernel_rfl) ?_
                refine ql (.int .i64 i) (by kernel_rfl) (by kernel_rfl) ?_
                by_cases hc30 : i ≥ (0 : Int)
                · skip
                  refine ql (.bool true) (by kernel_rfl) (R_bool (p := i ≥ (0 : Int)) (by kernel_rfl) (hc30)) ?_
                  refine ql (.bool true) (by kernel_rfl) (by kernel_rfl) ?_
                  refine ql (.bool true) (by kernel_rfl) (by kernel_rfl) ?_
                  refine ql (.int .i64 i) (by kernel_rfl) (by kernel_rfl) ?_
                  refine ql (.int .i64 n) (by kernel_rfl) (by kernel_rfl) ?_
                  by_cases hc31 : i < n
                  · skip
                    refine ql (.bool true) (by kernel_rfl) (R_bool (p := i < n) (by kernel_rfl) (hc31)) ?_
                    refine ql (.bool true) (by kernel_rfl) (by kernel_rfl) ?_
                    refine ql (.bool true) (by kernel_rfl) (by kernel_rfl) ?_
                    refine wpList_nil ?_
                    refine x_then ?_
                    refine wp_seq ?_
                    refine wp_seq ?_
                    refine wp_region_lit ?_
                    refine ql (.pointer (some ⟨g7, 0, none⟩)) (by kernel_rfl) (by kernel_rfl) ?_
                    refine ql (.int .i64 i) (by kernel_rfl) (by kernel_rfl) ?_
                    refine qc (f := 46) (args := #[.pointer (some ⟨g7, 0, none⟩), .int .i64 i]) (by kernel_rfl) (R_call #[.pointer (some ⟨g7, 0, none⟩), .int .i64 i] Try.func46 (by kernel_rfl) (by kernel_rfl) (by kernel_rfl)) ?_
                    have hfb := mem_filL (n := n) (x := i) (a := a) (b := b) (L := L)
                    have hfd : decide (i ∈ (filL n L a b)) = true := decide_eq_true (hfb.2 (.inl had))
                    refine (mhas g7 n (filL n L a b) x24 i _ (HS.hasP (i := 0) rfl) hok25 (by omega) (by omega)).mono ?_
                    rintro e W32 ⟨rfl, H_⟩
                    rw [hfd]
                    refine ⟨_, rfl, ?_⟩
                    replace HS : St W (owns []) W32 [many (mxE 100 77 21 113 110 g7 n (filL n L a b) x24)] := HS.join (F := []) (G := []) H_
                    clear H_
                    refine ql (.bool true) (by kernel_rfl) (by kernel_rfl) ?_
                    refine ql (.bool true) (by kernel_rfl) (by kernel_rfl) ?_
                    refine qln (by kernel_rfl) ?_
                    refine ql (.bool true) (by kernel_rfl) (by kernel_rfl) ?_
                    refine ql (.bool false) (by kernel_rfl) (by kernel_rfl) ?_
                    refine ql (.bool false) (by kernel_rfl) (by kernel_rfl) ?_
                    refine ql (.pointer (some ⟨g7, 0, none⟩)) (by kernel_rfl) (by kernel_rfl) ?_
                    refine qc (f := 47) (args := #[.pointer (some ⟨g7, 0, none⟩)]) (by kernel_rfl) (R_call #[.pointer (some ⟨g7, 0, none⟩)] Try.func47 (by kernel_rfl) (by kernel_rfl) (by kernel_rfl)) ?_
                    have hll33 := hok25.len (by omega)
                    refine (mlen g7 n (filL n L a b) x24 _ (HS.hasP (i := 0) rfl) hok25 (by omega) (by omega)).mono ?_
                    rintro e W34 ⟨rfl, H_⟩
                    refine ⟨_, rfl, ?_⟩
                    replace HS : St W (owns []) W34 [many (mxE 100 77 21 113 110 g7 n (filL n L a b) x24)] := HS.join (F := []) (G := []) H_
                    clear H_
                    refine ql (.int .i64 (L.length : Int)) (by kernel_rfl) (by kernel_rfl) ?_
                    by_cases hc35 : ((filL n L a b).length : Int) < (L.length : Int)
                    · skip
                      refine ql (.bool true) (by kernel_rfl) (R_bool (p := ((filL n L a b).length : Int) < (L.length : Int)) (by kernel_rfl) (hc35)) ?_
                      refine ql (.bool true) (by kernel_rfl) (by kernel_rfl) ?_
                      refine ql (.bool true) (by kernel_rfl) (by kernel_rfl) ?_
                      refine qln (by kernel_rfl) ?_
                      refine qln (by kernel_rfl) ?_
                      refine qln (by kernel_rfl) ?_
                      refine qln (by kernel_rfl) ?_
                      refine qln (by kernel_rfl) ?_
                      refine qln (by kernel_rfl) ?_
                      refine qln (by kernel_rfl) ?_
                      refine qln (by kernel_rfl) ?_
                      refine qln (by kernel_rfl) ?_
                      refine qln (by kernel_rfl) ?_
                      refine qln (by kernel_rfl) ?_
                      refine ql (.bool true) (by kernel_rfl) (by kernel_rfl) ?_
                      refine wpList_nil ?_
                      refine x_then ?_
                      refine wp_cond_true (by kernel_rfl) ?_
                      refine wp_seq ?_
                      refine wp_region_lit ?_
                      refine ql (.bool false) (by kernel_rfl) (by kernel_rfl) ?_
                      refine wpList_nil ?_
                      refine x_then ?_
                      refine wp_ret ?_
                      refine x_thenR ?_
                      refine ret_ (.bool false) (by kernel_rfl) ?_
                      exfalso; omega
                    · skip
                      refine ql (.bool false) (by kernel_rfl) (R_nbool (p := ((filL n L a b).length : Int) < (L.length : Int)) (by kernel_rfl) (hc35)) ?_
                      refine ql (.bool false) (by kernel_rfl) (by kernel_rfl) ?_
                      refine ql (.bool false) (by kernel_rfl) (by kernel_rfl) ?_
                      refine ql (.pointer (some ⟨g7, 0, none⟩)) (by kernel_rfl) (by kernel_rfl) ?_
                      refine qc (f := 49) (args := #[.pointer (some ⟨g7, 0, none⟩)]) (by kernel_rfl) (R_call #[.pointer (some ⟨g7, 0, none⟩)] Try.func49 (by kernel_rfl) (by kernel_rfl) (by kernel_rfl)) ?_
                      have hwl := wrd_le hok25
                      refine (mwords g7 n (filL n L a b) x24 _ (HS.hasP (i := 0) rfl) hok25 (by omega) (by omega)).mono ?_
                      rintro e W36 ⟨rfl, H_⟩
                      refine ⟨_, rfl, ?_⟩
                      replace HS : St W (owns []) W36 [many (mxE 100 77 21 113 110 g7 n (filL n L a b) x24)] := HS.join (F := []) (G := []) H_
                      clear H_
                      refine ql (.int .i64 n) (by kernel_rfl) (by kernel_rfl) ?_
                      refine ql (.int .i64 (n + 63)) (by kernel_rfl) (R_int (by kernel_rfl) (w64 (by omega))) ?_
                      refine ql (.int .i64 ((n + 63) / 64)) (by kernel_rfl) (R_quo (by kernel_rfl) (by kernel_rfl) (by omega) (by omega) (by decide)) ?_
                      by_cases hc37 : (wrd x24 n (filL n L a b)) > ((n + 63) / 64)
                      · skip
                        refine ql (.bool true) (by kernel_rfl) (R_bool (p := (wrd x24 n (filL n L a b)) > ((n + 63) / 64)) (by kernel_rfl) (hc37)) ?_
                        refine ql (.bool true) (by kernel_rfl) (by kernel_rfl) ?_
                        refine ql (.pointer (some ⟨g7, 0, none⟩)) (by kernel_rfl) (by kernel_rfl) ?_
                        refine qc (f := 49) (args := #[.pointer (some ⟨g7, 0, none⟩)]) (by kernel_rfl) (R_call #[.pointer (some ⟨g7, 0, none⟩)] Try.func49 (by kernel_rfl) (by kernel_rfl) (by kernel_rfl)) ?_
                        refine (mwords g7 n (filL n L a b) x24 _ (HS.hasP (i := 0) rfl) hok25 (by omega) (by omega)).mono ?_
                        rintro e W38 ⟨rfl, H_⟩
                        refine ⟨_, rfl, ?_⟩
                        replace HS : St W (owns []) W38 [many (mxE 100 77 21 113 110 g7 n (filL n L a b) x24)] := HS.join (F := []) (G := []) H_
                        clear H_
                        by_cases hc39 : (wrd x24 n (filL n L a b)) > (8 : Int)
                        · skip
                          refine ql (.bool true) (by kernel_rfl) (R_bool (p := (wrd x24 n (filL n L a b)) > (8 : Int)) (by kernel_rfl) (hc39)) ?_
                          refine ql (.bool true) (by kernel_rfl) (by kernel_rfl) ?_
                          refine ql (.bool true) (by kernel_rfl) (by kernel_rfl) ?_
                          refine wpList_nil ?_
                          refine x_then ?_
                          refine wp_cond_true (by kernel_rfl) ?_
                          refine wp_seq ?_
                          refine wp_region_lit ?_
                          refine ql (.bool false) (by kernel_rfl) (by kernel_rfl) ?_
                          refine wpList_nil ?_
                          refine x_then ?_
                          refine wp_ret ?_
                          refine x_thenR ?_
                          refine ret_ (.bool false) (by kernel_rfl) ?_
                          exfalso; omega
                        · skip
                          refine ql (.bool false) (by kernel_rfl) (R_nbool (p := (wrd x24 n (filL n L a b)) > (8 : Int)) (by kernel_rfl) (hc39)) ?_
                          refine ql (.bool false) (by kernel_rfl) (by kernel_rfl) ?_
                          refine ql (.bool false) (by kernel_rfl) (by kernel_rfl) ?_
                          refine wpList_nil ?_
                          refine x_then ?_
                          refine wp_cond_false (by kernel_rfl) ?_
                          refine wp_skip ?_
                          refine x_then ?_
                          refine wp_seq ?_
                          refine wp_region_lit ?_
                          refine ql (.pointer (some ⟨g7, 0, none⟩)) (by kernel_rfl) (by kernel_rfl) ?_
                          refine qc (f := 47) (args := #[.pointer (some ⟨g7, 0, none⟩)]) (by kernel_rfl) (R_call #[.pointer (some ⟨g7, 0, none⟩)] Try.func47 (by kernel_rfl) (by kernel_rfl) (by kernel_rfl)) ?_
                          have hll40 := hok25.len (by omega)
                          refine (mlen g7 n (filL n L a b) x24 _ (HS.hasP (i := 0) rfl) hok25 (by omega) (by omega)).mono ?_
                          rintro e W41 ⟨rfl, H_⟩
                          refine ⟨_, rfl, ?_⟩
                          replace HS : St W (owns []) W41 [many (mxE 100 77 21 113 110 g7 n (filL n L a b) x24)] := HS.join (F := []) (G := []) H_
                          clear H_
                          refine ql (.int .i64 ((filL n L a b).length : Int)) (by kernel_rfl) (by kernel_rfl) ?_
                          refine wpList_nil ?_
                          refine x_then ?_
                          refine wp_seq ?_
                          refine wp_region_lit ?_
                          refine ql (.pointer (some ⟨g7, 0, none⟩)) (by kernel_rfl) (by kernel_rfl) ?_
                          refine ql (.int .i64 a) (by kernel_rfl) (by kernel_rfl) ?_
                          refine ql (.int .i64 b) (by kernel_rfl) (by kernel_rfl) ?_
                          refine qc (f := 48) (args := #[.pointer (some ⟨g7, 0, none⟩), .int .i64 a, .int .i64 b]) (by kernel_rfl) (R_call #[.pointer (some ⟨g7, 0, none⟩), .int .i64 a, .int .i64 b] Try.func48 (by kernel_rfl) (by kernel_rfl) (by kernel_rfl)) ?_
                          have hfl45 : (filL n (filL n L a b) a b) = (filL n L a b) := filL_twice n a b L
                          refine (mfill g7 n (filL n L a b) x24 a b _ _ (St.focus (F := [many (mxE 100 77 21 113 110 g7 n (filL n L a b) x24)]) HS) hok25 (by omega) (by omega)).mono ?_
                          rintro e W46 ⟨x42, rfl, H_, hok43, hb44⟩
                          rw [hfl45] at H_ hok43 hb44
                          refine ⟨_, rfl, ?_⟩
                          replace HS : St W (owns []) W46 [many (mxE 100 77 21 113 110 g7 n (filL n L a b) x42)] := HS.join (F := [many (mxE 100 77 21 113 110 g7 n (filL n L a b) x24)]) (G := [many (mxE 100 77 21 113 110 g7 n (filL n L a b) x42)]) H_
                          clear H_
                          refine wpList_nil ?_
                          refine x_then ?_
                          refine wp_seq ?_
                          refine wp_region_lit ?_
                          refine ql (.pointer (some ⟨g7, 0, none⟩)) (by kernel_rfl) (by kernel_rfl) ?_
                          refine qc (f := 47) (args := #[.pointer (some ⟨g7, 0, none⟩)]) (by kernel_rfl) (R_call #[.pointer (some ⟨g7, 0, none⟩)] Try.func47 (by kernel_rfl) (by kernel_rfl) (by kernel_rfl)) ?_
                          have hll47 := hok43.len (by omega)
                          refine (mlen g7 n (filL n L a b) x42 _ (HS.hasP (i := 0) rfl) hok43 (by omega) (by omega)).mono ?_
                          rintro e W48 ⟨rfl, H_⟩
                          refine ⟨_, rfl, ?_⟩
                          replace HS : St W (owns []) W48 [many (mxE 100 77 21 113 110 g7 n (filL n L a b) x42)] := HS.join (F := []) (G := []) H_
                          clear H_
                          refine ql (.int .i64 ((filL n L a b).length : Int)) (by kernel_rfl) (by kernel_rfl) ?_
                          refine ql (.bool true) (by kernel_rfl) (R_beq (b := (((filL n L a b).length : Int) == ((filL n L a b).length : Int))) (by kernel_rfl) (beq_t (by omega))) ?_
                          refine ql (.bool true) (by kernel_rfl) (by kernel_rfl) ?_
                          refine qc (f := 43) (args := #[]) (by kernel_rfl) (R_call #[] Try.func43 (by kernel_rfl) (by kernel_rfl) (by kernel_rfl)) ?_
                          refine (mawake _).mono ?_
                          rintro e W49 ⟨rfl, H_⟩
                          refine ⟨_, rfl, ?_⟩
                          replace HS : St W (owns []) W49 [many (mxE 100 77 21 113 110 g7 n (filL n L a b) x42)] := HS.join (F := []) (G := []) H_
                          clear H_
                          refine ql (.bool true) (by kernel_rfl) (by kernel_rfl) ?_
                          refine ql (.bool true) (by kernel_rfl) (by kernel_rfl) ?_
                          refine wpList_nil ?_
                          refine x_then ?_
                          refine wp_ret ?_
                          refine ret_ (.bool true) (by kernel_rfl) ?_
                          replace HS := HS.drop1
                          exact ⟨rfl, HS⟩
                      · skip
                        refine ql (.bool false) (by kernel_rfl) (R_nbool (p := (wrd x24 n (filL n L a b)) > ((n + 63) / 64)) (by kernel_rfl) (hc37)) ?_
                        refine ql (.bool false) (by kernel_rfl) (by kernel_rfl) ?_
                        refine qln (by kernel_rfl) ?_
                        refine qln (by kernel_rfl) ?_
                        refine qln (by kernel_rfl) ?_
                        refine ql (.bool false) (by kernel_rfl) (by kernel_rfl) ?_
                        refine ql (.bool false) (by kernel_rfl) (by kernel_rfl) ?_
                        refine wpList_nil ?_
                        refine x_then ?_
                        refine wp_cond_false (by kernel_rfl) ?_
                        refine wp_skip ?_
                        refine x_then ?_
                        refine wp_seq ?_
                        refine wp_region_lit ?_
                        refine ql (.pointer (some ⟨g7, 0, none⟩)) (by kernel_rfl) (by kernel_rfl) ?_
                        refine qc (f := 47) (args := #[.pointer (some ⟨g7, 0, none⟩)]) (by kernel_rfl) (R_call #[.pointer (some ⟨g7, 0, none⟩)] Try.func47 (by kernel_rfl) (by kernel_rfl) (by kernel_rfl)) ?_
                        have hll50 := hok25.len (by omega)
                        refine (mlen g7 n (filL n L a b) x24 _ (HS.hasP (i := 0) rfl) hok25 (by omega) (by omega)).mono ?_
                        rintro e W51 ⟨rfl, H_⟩
                        refine ⟨_, rfl, ?_⟩
                        replace HS : St W (owns []) W51 [many (mxE 100 77 21 113 110 g7 n (filL n L a b) x24)] := HS.join (F := []) (G := []) H_
                        clear H_
                        refine ql (.int .i64 ((filL n L a b).length : Int)) (by kernel_rfl) (by kernel_rfl) ?_
                        refine wpList_nil ?_
                        refine x_then ?_
                        refine wp_seq ?_
                        refine wp_region_lit ?_
                        refine ql (.pointer (some ⟨g7, 0, none⟩)) (by kernel_rfl) (by kernel_rfl) ?_
                        refine ql (.int .i64 a) (by kernel_rfl) (by kernel_rfl) ?_
                        refine ql (.int .i64 b) (by kernel_rfl) (by kernel_rfl) ?_
                        refine qc (f := 48) (args := #[.pointer (some ⟨g7, 0, none⟩), .int .i64 a, .int .i64 b]) (by kernel_rfl) (R_call #[.pointer (some ⟨g7, 0, none⟩), .int .i64 a, .int .i64 b] Try.func48 (by kernel_rfl) (by kernel_rfl) (by kernel_rfl)) ?_
                        have hfl55 : (filL n (filL n L a b) a b) = (filL n L a b) := filL_twice n a b L
                        refine (mfill g7 n (filL n L a b) x24 a b _ _ (St.focus (F := [many (mxE 100 77 21 113 110 g7 n (filL n L a b) x24)]) HS) hok25 (by omega) (by omega)).mono ?_
                        rintro e W56 ⟨x52, rfl, H_, hok53, hb54⟩
                        rw [hfl55] at H_ hok53 hb54
                        refine ⟨_, rfl, ?_⟩
                        replace HS : St W (owns []) W56 [many (mxE 100 77 21 113 110 g7 n (filL n L a b) x52)] := HS.join (F := [many (mxE 100 77 21 113 110 g7 n (filL n L a b) x24)]) (G := [many (mxE 100 77 21 113 110 g7 n (filL n L a b) x52)]) H_
                        clear H_
                        refine wpList_nil ?_
                        refine x_then ?_
                        refine wp_seq ?_
                        refine wp_region_lit ?_
                        refine ql (.pointer (some ⟨g7, 0, none⟩)) (by kernel_rfl) (by kernel_rfl) ?_
                        refine qc (f := 47) (args := #[.pointer (some ⟨g7, 0, none⟩)]) (by kernel_rfl) (R_call #[.pointer (some ⟨g7, 0, none⟩)] Try.func47 (by kernel_rfl) (by kernel_rfl) (by kernel_rfl)) ?_
                        have hll57 := hok53.len (by omega)
                        refine (mlen g7 n (filL n L a b) x52 _ (HS.hasP (i := 0) rfl) hok53 (by omega) (by omega)).mono ?_
                        rintro e W58 ⟨rfl, H_⟩
                        refine ⟨_, rfl, ?_⟩
                        replace HS : St W (owns []) W58 [many (mxE 100 77 21 113 110 g7 n (filL n L a b) x52)] := HS.join (F := []) (G := []) H_
                        clear H_
                        refine ql (.int .i64 ((filL n L a b).length : Int)) (by kernel_rfl) (by kernel_rfl) ?_
                        refine ql (.bool true) (by kernel_rfl) (R_beq (b := (((filL n L a b).length : Int) == ((filL n L a b).length : Int))) (by kernel_rfl) (beq_t (by omega))) ?_
                        refine ql (.bool true) (by kernel_rfl) (by kernel_rfl) ?_
                        refine qc (f := 43) (args := #[]) (by kernel_rfl) (R_call #[] Try.func43 (by kernel_rfl) (by kernel_rfl) (by kernel_rfl)) ?_
                        refine (mawake _).mono ?_
                        rintro e W59 ⟨rfl, H_⟩
                        refine ⟨_, rfl, ?_⟩
                        replace HS : St W (owns []) W59 [many (mxE 100 77 21 113 110 g7 n (filL n L a b) x52)] := HS.join (F := []) (G := []) H_
                        clear H_
                        refine ql (.bool true) (by kernel_rfl) (by kernel_rfl) ?_
                        refine ql (.bool true) (by kernel_rfl) (by kernel_rfl) ?_
                        refine wpList_nil ?_
                        refine x_then ?_
                        refine wp_ret ?_
                        refine ret_ (.bool true) (by kernel_rfl) ?_
                        replace HS := HS.drop1
                        exact ⟨rfl, HS⟩
                  · skip
                    refine ql (.bool false) (by kernel_rfl) (R_nbool (p := i < n) (by kernel_rfl) (hc31)) ?_
                    refine ql (.bool false) (by kernel_rfl) (by kernel_rfl) ?_
                    refine ql (.bool false) (by kernel_rfl) (by kernel_rfl) ?_
                    refine wpList_nil ?_
                    refine x_then ?_
                    refine wp_seq ?_
                    refine wp_seq ?_
                    refine wp_region_lit ?_
                    refine ql (.pointer (some ⟨g7, 0, none⟩)) (by kernel_rfl) (by kernel_rfl) ?_
                    refine ql (.int .i64 i) (by kernel_rfl) (by kernel_rfl) ?_
                    refine qc (f := 46) (args := #[.pointer (some ⟨g7, 0, none⟩), .int .i64 i]) (by kernel_rfl) (R_call #[.pointer (some ⟨g7, 0, none⟩), .int .i64 i] Try.func46 (by kernel_rfl) (by kernel_rfl) (by kernel_rfl)) ?_
                    have hfb := mem_filL (n := n) (x := i) (a := a) (b := b) (L := L)
                    have hfd : decide (i ∈ (filL n L a b)) = true := decide_eq_true (hfb.2 (.inl had))
                    refine (mhas g7 n (filL n L a b) x24 i _ (HS.hasP (i := 0) rfl) hok25 (by omega) (by omega)).mono ?_
                    rintro e W60 ⟨rfl, H_⟩
                    rw [hfd]
                    refine ⟨_, rfl, ?_⟩
                    replace HS : St W (owns []) W60 [many (mxE 100 77 21 113 110 g7 n (filL n L a b) x24)] := HS.join (F := []) (G := []) H_
                    clear H_
                    refine ql (.bool true) (by kernel_rfl) (by kernel_rfl) ?_
                    refine ql (.bool true) (by kernel_rfl) (by kernel_rfl) ?_
                    refine qln (by kernel_rfl) ?_
                    refine ql (.bool true) (by kernel_rfl) (by kernel_rfl) ?_
                    refine ql (.bool false) (by kernel_rfl) (by kernel_rfl) ?_
                    refine ql (.bool false) (by kernel_rfl) (by kernel_rfl) ?_
                    refine ql (.pointer (some ⟨g7, 0, none⟩)) (by kernel_rfl) (by kernel_rfl) ?_
                    refine qc (f := 47) (args := #[.pointer (some ⟨g7, 0, none⟩)]) (by kernel_rfl) (R_call #[.pointer (some ⟨g7, 0, none⟩)] Try.func47 (by kernel_rfl) (by kernel_rfl) (by kernel_rfl)) ?_
                    have hll61 := hok25.len (by omega)
                    refine (mlen g7 n (filL n L a b) x24 _ (HS.hasP (i := 0) rfl) hok25 (by omega) (by omega)).mono ?_
                    rintro e W62 ⟨rfl, H_⟩
                    refine ⟨_, rfl, ?_⟩
                    replace HS : St W (owns []) W62 [many (mxE 100 77 21 113 110 g7 n (filL n L a b) x24)] := HS.join (F := []) (G := []) H_
                    clear H_
                    refine ql (.int .i64 (L.length : Int)) (by kernel_rfl) (by kernel_rfl) ?_
                    by_cases hc63 : ((filL n L a b).length : Int) < (L.length : Int)
                    · skip
                      refine ql (.bool true) (by kernel_rfl) (R_bool (p := ((filL n L a b).length : Int) < (L.length : Int)) (by kernel_rfl) (hc63)) ?_
                      refine ql (.bool true) (by kernel_rfl) (by kernel_rfl) ?_
                      refine ql (.bool true) (by kernel_rfl) (by kernel_rfl) ?_
                      refine qln (by kernel_rfl) ?_
                      refine qln (by kernel_rfl) ?_
                      refine qln (by kernel_rfl) ?_
                      refine qln (by kernel_rfl) ?_
                      refine qln (by kernel_rfl) ?_
                      refine qln (by kernel_rfl) ?_
                      refine qln (by kernel_rfl) ?_
                      refine qln (by kernel_rfl) ?_
                      refine qln (by kernel_rfl) ?_
                      refine qln (by kernel_rfl) ?_
                      refine qln (by kernel_rfl) ?_
                      refine ql (.bool true) (by kernel_rfl) (by kernel_rfl) ?_
                      refine wpList_nil ?_
                      refine x_then ?_
                      refine wp_cond_true (by kernel_rfl) ?_
                      refine wp_seq ?_
                      refine wp_region_lit ?_
                      refine ql (.bool false) (by kernel_rfl) (by kernel_rfl) ?_
                      refine wpList_nil ?_
                      refine x_then ?_
                      refine wp_ret ?_
                      refine x_thenR ?_
                      refine ret_ (.bool false) (by kernel_rfl) ?_
                      exfalso; omega
                    · skip
                      refine ql (.bool false) (by kernel_rfl) (R_nbool (p := ((filL n L a b).length : Int) < (L.length : Int)) (by kernel_rfl) (hc63)) ?_
                      refine ql (.bool false) (by kernel_rfl) (by kernel_rfl) ?_
                      refine ql (.bool false) (by kernel_rfl) (by kernel_rfl) ?_
                      refine ql (.pointer (some ⟨g7, 0, none⟩)) (by kernel_rfl) (by kernel_rfl) ?_
                      refine qc (f := 49) (args := #[.pointer (some ⟨g7, 0, none⟩)]) (by kernel_rfl) (R_call #[.pointer (some ⟨g7, 0, none⟩)] Try.func49 (by kernel_rfl) (by kernel_rfl) (by kernel_rfl)) ?_
                      have hwl := wrd_le hok25
                      refine (mwords g7 n (filL n L a b) x24 _ (HS.hasP (i := 0) rfl) hok25 (by omega) (by omega)).mono ?_
                      rintro e W64 ⟨rfl, H_⟩
                      refine ⟨_, rfl, ?_⟩
                      replace HS : St W (owns []) W64 [many (mxE 100 77 21 113 110 g7 n (filL n L a b) x24)] := HS.join (F := []) (G := []) H_
                      clear H_
                      refine ql (.int .i64 n) (by kernel_rfl) (by kernel_rfl) ?_
                      refine ql (.int .i64 (n + 63)) (by kernel_rfl) (R_int (by kernel_rfl) (w64 (by omega))) ?_
                      refine ql (.int .i64 ((n + 63) / 64)) (by kernel_rfl) (R_quo (by kernel_rfl) (by kernel_rfl) (by omega) (by omega) (by decide)) ?_
                      by_cases hc65 : (wrd x24 n (filL n L a b)) > ((n + 63) / 64)
                      · skip
                        refine ql (.bool true) (by kernel_rfl) (R_bool (p := (wrd x24 n (filL n L a b)) > ((n + 63) / 64)) (by kernel_rfl) (hc65)) ?_
                        refine ql (.bool true) (by kernel_rfl) (by kernel_rfl) ?_
                        refine ql (.pointer (some ⟨g7, 0, none⟩)) (by kernel_rfl) (by kernel_rfl) ?_
                        refine qc (f := 49) (args := #[.pointer (some ⟨g7, 0, none⟩)]) (by kernel_rfl) (R_call #[.pointer (some ⟨g7, 0, none⟩)] Try.func49 (by kernel_rfl) (by kernel_rfl) (by kernel_rfl)) ?_
                        refine (mwords g7 n (filL n L a b) x24 _ (HS.hasP (i := 0) rfl) hok25 (by omega) (by omega)).mono ?_
                        rintro e W66 ⟨rfl, H_⟩
                        refine ⟨_, rfl, ?_⟩
                        replace HS : St W (owns []) W66 [many (mxE 100 77 21 113 110 g7 n (filL n L a b) x24)] := HS.join (F := []) (G := []) H_
                        clear H_
                        by_cases hc67 : (wrd x24 n (filL n L a b)) > (8 : Int)
                        · skip
                          refine ql (.bool true) (by kernel_rfl) (R_bool (p := (wrd x24 n (filL n L a b)) > (8 : Int)) (by kernel_rfl) (hc67)) ?_
                          refine ql (.bool true) (by kernel_rfl) (by kernel_rfl) ?_
                          refine ql (.bool true) (by kernel_rfl) (by kernel_rfl) ?_
                          refine wpList_nil ?_
                          refine x_then ?_
                          refine wp_cond_true (by kernel_rfl) ?_
                          refine wp_seq ?_
                          refine wp_region_lit ?_
                          refine ql (.bool false) (by kernel_rfl) (by kernel_rfl) ?_
                          refine wpList_nil ?_
                          refine x_then ?_
                          refine wp_ret ?_
                          refine x_thenR ?_
                          refine ret_ (.bool false) (by kernel_rfl) ?_
                          exfalso; omega
                        · skip
                          refine ql (.bool false) (by kernel_rfl) (R_nbool (p := (wrd x24 n (filL n L a b)) > (8 : Int)) (by kernel_rfl) (hc67)) ?_
                          refine ql (.bool false) (by kernel_rfl) (by kernel_rfl) ?_
                          refine ql (.bool false) (by kernel_rfl) (by kernel_rfl) ?_
                          refine wpList_nil ?_
                          refine x_then ?_
                          refine wp_cond_false (by kernel_rfl) ?_
                          refine wp_skip ?_
                          refine x_then ?_
                          refine wp_seq ?_
                          refine wp_region_lit ?_
                          refine ql (.pointer (some ⟨g7, 0, none⟩)) (by kernel_rfl) (by kernel_rfl) ?_
                          refine qc (f := 47) (args := #[.pointer (some ⟨g7, 0, none⟩)]) (by kernel_rfl) (R_call #[.pointer (some ⟨g7, 0, none⟩)] Try.func47 (by kernel_rfl) (by kernel_rfl) (by kernel_rfl)) ?_
                          have hll68 := hok25.len (by omega)
                          refine (mlen g7 n (filL n L a b) x24 _ (HS.hasP (i := 0) rfl) hok25 (by omega) (by omega)).mono ?_
                          rintro e W69 ⟨rfl, H_⟩
                          refine ⟨_, rfl, ?_⟩
                          replace HS : St W (owns []) W69 [many (mxE 100 77 21 113 110 g7 n (filL n L a b) x24)] := HS.join (F := []) (G := []) H_
                          clear H_
                          refine ql (.int .i64 ((filL n L a b).length : Int)) (by kernel_rfl) (by kernel_rfl) ?_
                          refine wpList_nil ?_
                          refine x_then ?_
                          refine wp_seq ?_
                          refine wp_region_lit ?_
                          refine ql (.pointer (some ⟨g7, 0, none⟩)) (by kernel_rfl) (by kernel_rfl) ?_
                          refine ql (.int .i64 a) (by kernel_rfl) (by kernel_rfl) ?_
                          refine ql (.int .i64 b) (by kernel_rfl) (by kernel_rfl) ?_
                          refine qc (f := 48) (args := #[.pointer (some ⟨g7, 0, none⟩), .int .i64 a, .int .i64 b]) (by kernel_rfl) (R_call #[.pointer (some ⟨g7, 0, none⟩), .int .i64 a, .int .i64 b] Try.func48 (by kernel_rfl) (by kernel_rfl) (by kernel_rfl)) ?_
                          have hfl73 : (filL n (filL n L a b) a b) = (filL n L a b) := filL_twice n a b L
                          refine (mfill g7 n (filL n L a b) x24 a b _ _ (St.focus (F := [many (mxE 100 77 21 113 110 g7 n (filL n L a b) x24)]) HS) hok25 (by omega) (by omega)).mono ?_
                          rintro e W74 ⟨x70, rfl, H_, hok71, hb72⟩
                          rw [hfl73] at H_ hok71 hb72
                          refine ⟨_, rfl, ?_⟩
                          replace HS : St W (owns []) W74 [many (mxE 100 77 21 113 110 g7 n (filL n L a b) x70)] := HS.join (F := [many (mxE 100 77 21 113 110 g7 n (filL n L a b) x24)]) (G := [many (mxE 100 77 21 113 110 g7 n (filL n L a b) x70)]) H_
                          clear H_
                          refine wpList_nil ?_
                          refine x_then ?_
                          refine wp_seq ?_
                          refine wp_region_lit ?_
                          refine ql (.pointer (some ⟨g7, 0, none⟩)) (by kernel_rfl) (by kernel_rfl) ?_
                          refine qc (f := 47) (args := #[.pointer (some ⟨g7, 0, none⟩)]) (by kernel_rfl) (R_call #[.pointer (some ⟨g7, 0, none⟩)] Try.func47 (by kernel_rfl) (by kernel_rfl) (by kernel_rfl)) ?_
                          have hll75 := hok71.len (by omega)
                          refine (mlen g7 n (filL n L a b) x70 _ (HS.hasP (i := 0) rfl) hok71 (by omega) (by omega)).mono ?_
                          rintro e W76 ⟨rfl, H_⟩
                          refine ⟨_, rfl, ?_⟩
                          replace HS : St W (owns []) W76 [many (mxE 100 77 21 113 110 g7 n (filL n L a b) x70)] := HS.join (F := []) (G := []) H_
                          clear H_
                          refine ql (.int .i64 ((filL n L a b).length : Int)) (by kernel_rfl) (by kernel_rfl) ?_
                          refine ql (.bool true) (by kernel_rfl) (R_beq (b := (((filL n L a b).length : Int) == ((filL n L a b).length : Int))) (by kernel_rfl) (beq_t (by omega))) ?_
                          refine ql (.bool true) (by kernel_rfl) (by kernel_rfl) ?_
                          refine qc (f := 43) (args := #[]) (by kernel_rfl) (R_call #[] Try.func43 (by kernel_rfl) (by kernel_rfl) (by kernel_rfl)) ?_
                          refine (mawake _).mono ?_
                          rintro e W77 ⟨rfl, H_⟩
                          refine ⟨_, rfl, ?_⟩
                          replace HS : St W (owns []) W77 [many (mxE 100 77 21 113 110 g7 n (filL n L a b) x70)] := HS.join (F := []) (G := []) H_
                          clear H_
                          refine ql (.bool true) (by kernel_rfl) (by kernel_rfl) ?_
                          refine ql (.bool true) (by kernel_rfl) (by kernel_rfl) ?_
                          refine wpList_nil ?_
                          refine x_then ?_
                          refine wp_ret ?_
                          refine ret_ (.bool true) (by kernel_rfl) ?_
                          replace HS := HS.drop1
                          exact ⟨rfl, HS⟩
                      · skip
                        refine ql (.bool false) (by kernel_rfl) (R_nbool (p := (wrd x24 n (filL n L a b)) > ((n + 63) / 64)) (by kernel_rfl) (hc65)) ?_
                        refine ql (.bool false) (by kernel_rfl) (by kernel_rfl) ?_
                        refine qln (by kernel_rfl) ?_
                        refine qln (by kernel_rfl) ?_
                        refine qln (by kernel_rfl) ?_
                        refine ql (.bool false) (by kernel_rfl) (by kernel_rfl) ?_
                        refine ql (.bool false) (by kernel_rfl) (by kernel_rfl) ?_
                        refine wpList_nil ?_
                        refine x_then ?_
                        refine wp_cond_false (by kernel_rfl) ?_
                        refine wp_skip ?_
                        refine x_then ?_
                        refine wp_seq ?_
                        refine wp_region_lit ?_
                        refine ql (.pointer (some ⟨g7, 0, none⟩)) (by kernel_rfl) (by kernel_rfl) ?_
                        refine qc (f := 47) (args := #[.pointer (some ⟨g7, 0, none⟩)]) (by kernel_rfl) (R_call #[.pointer (some ⟨g7, 0, none⟩)] Try.func47 (by kernel_rfl) (by kernel_rfl) (by kernel_rfl)) ?_
                        have hll78 := hok25.len (by omega)
                        refine (mlen g7 n (filL n L a b) x24 _ (HS.hasP (i := 0) rfl) hok25 (by omega) (by omega)).mono ?_
                        rintro e W79 ⟨rfl, H_⟩
                        refine ⟨_, rfl, ?_⟩
                        replace HS : St W (owns []) W79 [many (mxE 100 77 21 113 110 g7 n (filL n L a b) x24)] := HS.join (F := []) (G := []) H_
                        clear H_
                        refine ql (.int .i64 ((filL n L a b).length : Int)) (by kernel_rfl) (by kernel_rfl) ?_
                        refine wpList_nil ?_
                        refine x_then ?_
                        refine wp_seq ?_
                        refine wp_region_lit ?_
                        refine ql (.pointer (some ⟨g7, 0, none⟩)) (by kernel_rfl) (by kernel_rfl) ?_
                        refine ql (.int .i64 a) (by kernel_rfl) (by kernel_rfl) ?_
                        refine ql (.int .i64 b) (by kernel_rfl) (by kernel_rfl) ?_
                        refine qc (f := 48) (args := #[.pointer (some ⟨g7, 0, none⟩), .int .i64 a, .int .i64 b]) (by kernel_rfl) (R_call #[.pointer (some ⟨g7, 0, none⟩), .int .i64 a, .int .i64 b] Try.func48 (by kernel_rfl) (by kernel_rfl) (by kernel_rfl)) ?_
                        have hfl83 : (filL n (filL n L a b) a b) = (filL n L a b) := filL_twice n a b L
                        refine (mfill g7 n (filL n L a b) x24 a b _ _ (St.focus (F := [many (mxE 100 77 21 113 110 g7 n (filL n L a b) x24)]) HS) hok25 (by omega) (by omega)).mono ?_
                        rintro e W84 ⟨x80, rfl, H_, hok81, hb82⟩
                        rw [hfl83] at H_ hok81 hb82
                        refine ⟨_, rfl, ?_⟩
                        replace HS : St W (owns []) W84 [many (mxE 100 77 21 113 110 g7 n (filL n L a b) x80)] := HS.join (F := [many (mxE 100 77 21 113 110 g7 n (filL n L a b) x24)]) (G := [many (mxE 100 77 21 113 110 g7 n (filL n L a b) x80)]) H_
                        clear H_
                        refine wpList_nil ?_
                        refine x_then ?_
                        refine wp_seq ?_
                        refine wp_region_lit ?_
                        refine ql (.pointer (some ⟨g7, 0, none⟩)) (by kernel_rfl) (by kernel_rfl) ?_
                        refine qc (f := 47) (args := #[.pointer (some ⟨g7, 0, none⟩)]) (by kernel_rfl) (R_call #[.pointer (some ⟨g7, 0, none⟩)] Try.func47 (by kernel_rfl) (by kernel_rfl) (by kernel_rfl)) ?_
                        have hll85 := hok81.len (by omega)
                        refine (mlen g7 n (filL n L a b) x80 _ (HS.hasP (i := 0) rfl) hok81 (by omega) (by omega)).mono ?_
                        rintro e W86 ⟨rfl, H_⟩
                        refine ⟨_, rfl, ?_⟩
                        replace HS : St W (owns []) W86 [many (mxE 100 77 21 113 110 g7 n (filL n L a b) x80)] := HS.join (F := []) (G := []) H_
                        clear H_
                        refine ql (.int .i64 ((filL n L a b).length : Int)) (by kernel_rfl) (by kernel_rfl) ?_
                        refine ql (.bool true) (by kernel_rfl) (R_beq (b := (((filL n L a b).length : Int) == ((filL n L a b).length : Int))) (by kernel_rfl) (beq_t (by omega))) ?_
                        refine ql (.bool true) (by kernel_rfl) (by kernel_rfl) ?_
                        refine qc (f := 43) (args := #[]) (by kernel_rfl) (R_call #[] Try.func43 (by kernel_rfl) (by kernel_rfl) (by kernel_rfl)) ?_
                        refine (mawake _).mono ?_
                        rintro e W87 ⟨rfl, H_⟩
                        refine ⟨_, rfl, ?_⟩
                        replace HS : St W (owns []) W87 [many (mxE 100 77 21 113 110 g7 n (filL n L a b) x80)] := HS.join (F := []) (G := []) H_
                        clear H_
                        refine ql (.bool true) (by kernel_rfl) (by kernel_rfl) ?_
                        refine ql (.bool true) (by kernel_rfl) (by kernel_rfl) ?_
                        refine wpList_nil ?_
                        refine x_then ?_
                        refine wp_ret ?_
                        refine ret_ (.bool true) (by kernel_rfl) ?_
                        replace HS := HS.drop1
                        exact ⟨rfl, HS⟩
                · skip
                  refine ql (.bool false) (by kernel_rfl) (R_nbool (p := i ≥ (0 : Int)) (by kernel_rfl) (hc30)) ?_
                  refine ql (.bool false) (by kernel_rfl) (by kernel_rfl) ?_
                  refine ql (.bool false) (by kernel_rfl) (by kernel_rfl) ?_
                  refine qln (by kernel_rfl) ?_
                  refine qln (by kernel_rfl) ?_
                  refine qln (by kernel_rfl) ?_
                  refine ql (.bool false) (by kernel_rfl) (by kernel_rfl) ?_
                  refine ql (.bool false) (by kernel_rfl) (by kernel_rfl) ?_
                  refine wpList_nil ?_
                  refine x_then ?_
                  refine wp_seq ?_
                  refine wp_seq ?_
                  refine wp_region_lit ?_
                  refine ql (.pointer (some ⟨g7, 0, none⟩)) (by kernel_rfl) (by kernel_rfl) ?_
                  refine ql (.int .i64 i) (by kernel_rfl) (by kernel_rfl) ?_
                  refine qc (f := 46) (args := #[.pointer (some ⟨g7, 0, none⟩), .int .i64 i]) (by kernel_rfl) (R_call #[.pointer (some ⟨g7, 0, none⟩), .int .i64 i] Try.func46 (by kernel_rfl) (by kernel_rfl) (by kernel_rfl)) ?_
                  have hfb := mem_filL (n := n) (x := i) (a := a) (b := b) (L := L)
                  have hfd : decide (i ∈ (filL n L a b)) = true := decide_eq_true (hfb.2 (.inl had))
                  refine (mhas g7 n (filL n L a b) x24 i _ (HS.hasP (i := 0) rfl) hok25 (by omega) (by omega)).mono ?_
                  rintro e W88 ⟨rfl, H_⟩
                  rw [hfd]
                  refine ⟨_, rfl, ?_⟩
                  replace HS : St W (owns []) W88 [many (mxE 100 77 21 113 110 g7 n (filL n L a b) x24)] := HS.join (F := []) (G := []) H_
                  clear H_
                  refine ql (.bool true) (by kernel_rfl) (by kernel_rfl) ?_
                  refine ql (.bool true) (by kernel_rfl) (by kernel_rfl) ?_
                  refine qln (by kernel_rfl) ?_
                  refine ql (.bool true) (by kernel_rfl) (by kernel_rfl) ?_
                  refine ql (.bool false) (by kernel_rfl) (by kernel_rfl) ?_
                  refine ql (.bool false) (by kernel_rfl) (by kernel_rfl) ?_
                  refine ql (.pointer (some ⟨g7, 0, none⟩)) (by kernel_rfl) (by kernel_rfl) ?_
                  refine qc (f := 47) (args := #[.pointer (some ⟨g7, 0, none⟩)]) (by kernel_rfl) (R_call #[.pointer (some ⟨g7, 0, none⟩)] Try.func47 (by kernel_rfl) (by kernel_rfl) (by kernel_rfl)) ?_
                  have hll89 := hok25.len (by omega)
                  refine (mlen g7 n (filL n L a b) x24 _ (HS.hasP (i := 0) rfl) hok25 (by omega) (by omega)).mono ?_
                  rintro e W90 ⟨rfl, H_⟩
                  refine ⟨_, rfl, ?_⟩
                  replace HS : St W (owns []) W90 [many (mxE 100 77 21 113 110 g7 n (filL n L a b) x24)] := HS.join (F := []) (G := []) H_
                  clear H_
                  refine ql (.int .i64 (L.length : Int)) (by kernel_rfl) (by kernel_rfl) ?_
                  by_cases hc91 : ((filL n L a b).length : Int) < (L.length : Int)
                  · skip
                    refine ql (.bool true) (by kernel_rfl) (R_bool (p := ((filL n L a b).length : Int) < (L.length : Int)) (by kernel_rfl) (hc91)) ?_
                    refine ql (.bool true) (by kernel_rfl) (by kernel_rfl) ?_
                    refine ql (.bool true) (by kernel_rfl) (by kernel_rfl) ?_
                    refine qln (by kernel_rfl) ?_
                    refine qln (by kernel_rfl) ?_
                    refine qln (by kernel_rfl) ?_
                    refine qln (by kernel_rfl) ?_
                    refine qln (by kernel_rfl) ?_
                    refine qln (by kernel_rfl) ?_
                    refine qln (by kernel_rfl) ?_
                    refine qln (by kernel_rfl) ?_
                    refine qln (by kernel_rfl) ?_
                    refine qln (by kernel_rfl) ?_
                    refine qln (by kernel_rfl) ?_
                    refine ql (.bool true) (by kernel_rfl) (by kernel_rfl) ?_
                    refine wpList_nil ?_
                    refine x_then ?_
                    refine wp_cond_true (by kernel_rfl) ?_
                    refine wp_seq ?_
                    refine wp_region_lit ?_
                    refine ql (.bool false) (by kernel_rfl) (by kernel_rfl) ?_
                    refine wpList_nil ?_
                    refine x_then ?_
                    refine wp_ret ?_
                    refine x_thenR ?_
                    refine ret_ (.bool false) (by kernel_rfl) ?_
                    exfalso; omega
                  · skip
                    refine ql (.bool false) (by kernel_rfl) (R_nbool (p := ((filL n L a b).length : Int) < (L.length : Int)) (by kernel_rfl) (hc91)) ?_
                    refine ql (.bool false) (by kernel_rfl) (by kernel_rfl) ?_
                    refine ql (.bool false) (by kernel_rfl) (by kernel_rfl) ?_
                    refine ql (.pointer (some ⟨g7, 0, none⟩)) (by kernel_rfl) (by kernel_rfl) ?_
                    refine qc (f := 49) (args := #[.pointer (some ⟨g7, 0, none⟩)]) (by kernel_rfl) (R_call #[.pointer (some ⟨g7, 0, none⟩)] Try.func49 (by kernel_rfl) (by kernel_rfl) (by kernel_rfl)) ?_
                    have hwl := wrd_le hok25
                    refine (mwords g7 n (filL n L a b) x24 _ (HS.hasP (i := 0) rfl) hok25 (by omega) (by omega)).mono ?_
                    rintro e W92 ⟨rfl, H_⟩
                    refine ⟨_, rfl, ?_⟩
                    replace HS : St W (owns []) W92 [many (mxE 100 77 21 113 110 g7 n (filL n L a b) x24)] := HS.join (F := []) (G := []) H_
                    clear H_
                    refine ql (.int .i64 n) (by kernel_rfl) (by kernel_rfl) ?_
                    refine ql (.int .i64 (n + 63)) (by kernel_rfl) (R_int (by kernel_rfl) (w64 (by omega))) ?_
                    refine ql (.int .i64 ((n + 63) / 64)) (by kernel_rfl) (R_quo (by kernel_rfl) (by kernel_rfl) (by omega) (by omega) (by decide)) ?_
                    by_cases hc93 : (wrd x24 n (filL n L a b)) > ((n + 63) / 64)
                    · skip
                      refine ql (.bool true) (by kernel_rfl) (R_bool (p := (wrd x24 n (filL n L a b)) > ((n + 63) / 64)) (by kernel_rfl) (hc93)) ?_
                      refine ql (.bool true) (by kernel_rfl) (by kernel_rfl) ?_
                      refine ql (.pointer (some ⟨g7, 0, none⟩)) (by kernel_rfl) (by kernel_rfl) ?_
                      refine qc (f := 49) (args := #[.pointer (some ⟨g7, 0, none⟩)]) (by kernel_rfl) (R_call #[.pointer (some ⟨g7, 0, none⟩)] Try.func49 (by kernel_rfl) (by kernel_rfl) (by kernel_rfl)) ?_
                      refine (mwords g7 n (filL n L a b) x24 _ (HS.hasP (i := 0) rfl) hok25 (by omega) (by omega)).mono ?_
                      rintro e W94 ⟨rfl, H_⟩
                      refine ⟨_, rfl, ?_⟩
                      replace HS : St W (owns []) W94 [many (mxE 100 77 21 113 110 g7 n (filL n L a b) x24)] := HS.join (F := []) (G := []) H_
                      clear H_
                      by_cases hc95 : (wrd x24 n (filL n L a b)) > (8 : Int)
                      · skip
                        refine ql (.bool true) (by kernel_rfl) (R_bool (p := (wrd x24 n (filL n L a b)) > (8 : Int)) (by kernel_rfl) (hc95)) ?_
                        refine ql (.bool true) (by kernel_rfl) (by kernel_rfl) ?_
                        refine ql (.bool true) (by kernel_rfl) (by kernel_rfl) ?_
                        refine wpList_nil ?_
                        refine x_then ?_
                        refine wp_cond_true (by kernel_rfl) ?_
                        refine wp_seq ?_
                        refine wp_region_lit ?_
                        refine ql (.bool false) (by kernel_rfl) (by kernel_rfl) ?_
                        refine wpList_nil ?_
                        refine x_then ?_
                        refine wp_ret ?_
                        refine x_thenR ?_
                        refine ret_ (.bool false) (by kernel_rfl) ?_
                        exfalso; omega
                      · skip
                        refine ql (.bool false) (by kernel_rfl) (R_nbool (p := (wrd x24 n (filL n L a b)) > (8 : Int)) (by kernel_rfl) (hc95)) ?_
                        refine ql (.bool false) (by kernel_rfl) (by kernel_rfl) ?_
                        refine ql (.bool false) (by kernel_rfl) (by kernel_rfl) ?_
                        refine wpList_nil ?_
                        refine x_then ?_
                        refine wp_cond_false (by kernel_rfl) ?_
                        refine wp_skip ?_
                        refine x_then ?_
                        refine wp_seq ?_
                        refine wp_region_lit ?_
                        refine ql (.pointer (some ⟨g7, 0, none⟩)) (by kernel_rfl) (by kernel_rfl) ?_
                        refine qc (f := 47) (args := #[.pointer (some ⟨g7, 0, none⟩)]) (by kernel_rfl) (R_call #[.pointer (some ⟨g7, 0, none⟩)] Try.func47 (by kernel_rfl) (by kernel_rfl) (by kernel_rfl)) ?_
                        have hll96 := hok25.len (by omega)
                        refine (mlen g7 n (filL n L a b) x24 _ (HS.hasP (i := 0) rfl) hok25 (by omega) (by omega)).mono ?_
                        rintro e W97 ⟨rfl, H_⟩
                        refine ⟨_, rfl, ?_⟩
                        replace HS : St W (owns []) W97 [many (mxE 100 77 21 113 110 g7 n (filL n L a b) x24)] := HS.join (F := []) (G := []) H_
                        clear H_
                        refine ql (.int .i64 ((filL n L a b).length : Int)) (by kernel_rfl) (by kernel_rfl) ?_
                        refine wpList_nil ?_
                        refine x_then ?_
                        refine wp_seq ?_
                        refine wp_region_lit ?_
                        refine ql (.pointer (some ⟨g7, 0, none⟩)) (by kernel_rfl) (by kernel_rfl) ?_
                        refine ql (.int .i64 a) (by kernel_rfl) (by kernel_rfl) ?_
                        refine ql (.int .i64 b) (by kernel_rfl) (by kernel_rfl) ?_
                        refine qc (f := 48) (args := #[.pointer (some ⟨g7, 0, none⟩), .int .i64 a, .int .i64 b]) (by kernel_rfl) (R_call #[.pointer (some ⟨g7, 0, none⟩), .int .i64 a, .int .i64 b] Try.func48 (by kernel_rfl) (by kernel_rfl) (by kernel_rfl)) ?_
                        have hfl101 : (filL n (filL n L a b) a b) = (filL n L a b) := filL_twice n a b L
                        refine (mfill g7 n (filL n L a b) x24 a b _ _ (St.focus (F := [many (mxE 100 77 21 113 110 g7 n (filL n L a b) x24)]) HS) hok25 (by omega) (by omega)).mono ?_
                        rintro e W102 ⟨x98, rfl, H_, hok99, hb100⟩
                        rw [hfl101] at H_ hok99 hb100
                        refine ⟨_, rfl, ?_⟩
                        replace HS : St W (owns []) W102 [many (mxE 100 77 21 113 110 g7 n (filL n L a b) x98)] := HS.join (F := [many (mxE 100 77 21 113 110 g7 n (filL n L a b) x24)]) (G := [many (mxE 100 77 21 113 110 g7 n (filL n L a b) x98)]) H_
                        clear H_
                        refine wpList_nil ?_
                        refine x_then ?_
                        refine wp_seq ?_
                        refine wp_region_lit ?_
                        refine ql (.pointer (some ⟨g7, 0, none⟩)) (by kernel_rfl) (by kernel_rfl) ?_
                        refine qc (f := 47) (args := #[.pointer (some ⟨g7, 0, none⟩)]) (by kernel_rfl) (R_call #[.pointer (some ⟨g7, 0, none⟩)] Try.func47 (by kernel_rfl) (by kernel_rfl) (by kernel_rfl)) ?_
                        have hll103 := hok99.len (by omega)
                        refine (mlen g7 n (filL n L a b) x98 _ (HS.hasP (i := 0) rfl) hok99 (by omega) (by omega)).mono ?_
                        rintro e W104 ⟨rfl, H_⟩
                        refine ⟨_, rfl, ?_⟩
                        replace HS : St W (owns []) W104 [many (mxE 100 77 21 113 110 g7 n (filL n L a b) x98)] := HS.join (F := []) (G := []) H_
                        clear H_
                        refine ql (.int .i64 ((filL n L a b).length : Int)) (by kernel_rfl) (by kernel_rfl) ?_
                        refine ql (.bool true) (by kernel_rfl) (R_beq (b := (((filL n L a b).length : Int) == ((filL n L a b).length : Int))) (by kernel_rfl) (beq_t (by omega))) ?_
                        refine ql (.bool true) (by kernel_rfl) (by kernel_rfl) ?_
                        refine qc (f := 43) (args := #[]) (by kernel_rfl) (R_call #[] Try.func43 (by kernel_rfl) (by kernel_rfl) (by kernel_rfl)) ?_
                        refine (mawake _).mono ?_
                        rintro e W105 ⟨rfl, H_⟩
                        refine ⟨_, rfl, ?_⟩
                        replace HS : St W (owns []) W105 [many (mxE 100 77 21 113 110 g7 n (filL n L a b) x98)] := HS.join (F := []) (G := []) H_
                        clear H_
                        refine ql (.bool true) (by kernel_rfl) (by kernel_rfl) ?_
                        refine ql (.bool true) (by kernel_rfl) (by kernel_rfl) ?_
                        refine wpList_nil ?_
                        refine x_then ?_
                        refine wp_ret ?_
                        refine ret_ (.bool true) (by kernel_rfl) ?_
                        replace HS := HS.drop1
                        exact ⟨rfl, HS⟩
                    · skip
                      refine ql (.bool false) (by kernel_rfl) (R_nbool (p := (wrd x24 n (filL n L a b)) > ((n + 63) / 64)) (by kernel_rfl) (hc93)) ?_
                      refine ql (.bool false) (by kernel_rfl) (by kernel_rfl) ?_
                      refine qln (by kernel_rfl) ?_
                      refine qln (by kernel_rfl) ?_
                      refine qln (by kernel_rfl) ?_
                      refine ql (.bool false) (by kernel_rfl) (by kernel_rfl) ?_
                      refine ql (.bool false) (by kernel_rfl) (by kernel_rfl) ?_
                      refine wpList_nil ?_
                      refine x_then ?_
                      refine wp_cond_false (by kernel_rfl) ?_
                      refine wp_skip ?_
                      refine x_then ?_
                      refine wp_seq ?_
                      refine wp_region_lit ?_
                      refine ql (.pointer (some ⟨g7, 0, none⟩)) (by kernel_rfl) (by kernel_rfl) ?_
                      refine qc (f := 47) (args := #[.pointer (some ⟨g7, 0, none⟩)]) (by kernel_rfl) (R_call #[.pointer (some ⟨g7, 0, none⟩)] Try.func47 (by kernel_rfl) (by kernel_rfl) (by kernel_rfl)) ?_
                      have hll106 := hok25.len (by omega)
                      refine (mlen g7 n (filL n L a b) x24 _ (HS.hasP (i := 0) rfl) hok25 (by omega) (by omega)).mono ?_
                      rintro e W107 ⟨rfl, H_⟩
                      refine ⟨_, rfl, ?_⟩
                      replace HS : St W (owns []) W107 [many (mxE 100 77 21 113 110 g7 n (filL n L a b) x24)] := HS.join (F := []) (G := []) H_
                      clear H_
                      refine ql (.int .i64 ((filL n L a b).length : Int)) (by kernel_rfl) (by kernel_rfl) ?_
                      refine wpList_nil ?_
                      refine x_then ?_
                      refine wp_seq ?_
                      refine wp_region_lit ?_
                      refine ql (.pointer (some ⟨g7, 0, none⟩)) (by kernel_rfl) (by kernel_rfl) ?_
                      refine ql (.int .i64 a) (by kernel_rfl) (by kernel_rfl) ?_
                      refine ql (.int .i64 b) (by kernel_rfl) (by kernel_rfl) ?_
                      refine qc (f := 48) (args := #[.pointer (some ⟨g7, 0, none⟩), .int .i64 a, .int .i64 b]) (by kernel_rfl) (R_call #[.pointer (some ⟨g7, 0, none⟩), .int .i64 a, .int .i64 b] Try.func48 (by kernel_rfl) (by kernel_rfl) (by kernel_rfl)) ?_
                      have hfl111 : (filL n (filL n L a b) a b) = (filL n L a b) := filL_twice n a b L
                      refine (mfill g7 n (filL n L a b) x24 a b _ _ (St.focus (F := [many (mxE 100 77 21 113 110 g7 n (filL n L a b) x24)]) HS) hok25 (by omega) (by omega)).mono ?_
                      rintro e W112 ⟨x108, rfl, H_, hok109, hb110⟩
                      rw [hfl111] at H_ hok109 hb110
                      refine ⟨_, rfl, ?_⟩
                      replace HS : St W (owns []) W112 [many (mxE 100 77 21 113 110 g7 n (filL n L a b) x108)] := HS.join (F := [many (mxE 100 77 21 113 110 g7 n (filL n L a b) x24)]) (G := [many (mxE 100 77 21 113 110 g7 n (filL n L a b) x108)]) H_
                      clear H_
                      refine wpList_nil ?_
                      refine x_then ?_
                      refine wp_seq ?_
                      refine wp_region_lit ?_
                      refine ql (.pointer (some ⟨g7, 0, none⟩)) (by kernel_rfl) (by kernel_rfl) ?_
                      refine qc (f := 47) (args := #[.pointer (some ⟨g7, 0, none⟩)]) (by kernel_rfl) (R_call #[.pointer (some ⟨g7, 0, none⟩)] Try.func47 (by kernel_rfl) (by kernel_rfl) (by kernel_rfl)) ?_
                      have hll113 := hok109.len (by omega)
                      refine (mlen g7 n (filL n L a b) x108 _ (HS.hasP (i := 0) rfl) hok109 (by omega) (by omega)).mono ?_
                      rintro e W114 ⟨rfl, H_⟩
                      refine ⟨_, rfl, ?_⟩
                      replace HS : St W (owns []) W114 [many (mxE 100 77 21 113 110 g7 n (filL n L a b) x108)] := HS.join (F := []) (G := []) H_
                      clear H_
                      refine ql (.int .i64 ((filL n L a b).length : Int)) (by kernel_rfl) (by kernel_rfl) ?_
                      refine ql (.bool true) (by kernel_rfl) (R_beq (b := (((filL n L a b).length : Int) == ((filL n L a b).length : Int))) (by kernel_rfl) (beq_t (by omega))) ?_
                      refine ql (.bool true) (by kernel_rfl) (by kernel_rfl) ?_
                      refine qc (f := 43) (args := #[]) (by kernel_rfl) (R_call #[] Try.func43 (by kernel_rfl) (by kernel_rfl) (by kernel_rfl)) ?_
                      refine (mawake _).mono ?_
                      rintro e W115 ⟨rfl, H_⟩
                      refine ⟨_, rfl, ?_⟩
                      replace HS : St W (owns []) W115 [many (mxE 100 77 21 113 110 g7 n (filL n L a b) x108)] := HS.join (F := []) (G := []) H_
                      clear H_
                      refine ql (.bool true) (by kernel_rfl) (by kernel_rfl) ?_
                      refine ql (.bool true) (by kernel_rfl) (by kernel_rfl) ?_
                      refine wpList_nil ?_
                      refine x_then ?_
                      refine wp_ret ?_
                      refine ret_ (.bool true) (by kernel_rfl) ?_
                      replace HS := HS.drop1
                      exact ⟨rfl, HS⟩
              · skip
                refine ql (.bool false) (by kernel_rfl) (R_nbool (p := i < b) (by kernel_rfl) (hc29)) ?_
                refine ql (.bool false) (by kernel_rfl) (by kernel_rfl) ?_
                refine ql (.bool false) (by kernel_rfl) (by kernel_rfl) ?_
                refine qln (by kernel_rfl) ?_
                refine qln (by kernel_rfl) ?_
                refine ql (.bool false) (by kernel_rfl) (by kernel_rfl) ?_
                refine ql (.bool false) (by kernel_rfl) (by kernel_rfl) ?_
                refine qln (by kernel_rfl) ?_
                refine qln (by kernel_rfl) ?_
                refine qln (by kernel_rfl) ?_
                refine ql (.bool false) (by kernel_rfl) (by kernel_rfl) ?_
                refine ql (.bool false) (by kernel_rfl) (by kernel_rfl) ?_
                refine wpList_nil ?_
                refine x_then ?_
                refine wp_seq ?_
                refine wp_seq ?_
                refine wp_region_lit ?_
                refine ql (.pointer (some ⟨g7, 0, none⟩)) (by kernel_rfl) (by kernel_rfl) ?_
                refine ql (.int .i64 i) (by kernel_rfl) (by kernel_rfl) ?_
                refine qc (f := 46) (args := #[.pointer (some ⟨g7, 0, none⟩), .int .i64 i]) (by kernel_rfl) (R_call #[.pointer (some ⟨g7, 0, none⟩), .int .i64 i] Try.func46 (by kernel_rfl) (by kernel_rfl) (by kernel_rfl)) ?_
                have hfb := mem_filL (n := n) (x := i) (a := a) (b := b) (L := L)
                have hfd : decide (i ∈ (filL n L a b)) = true := decide_eq_true (hfb.2 (.inl had))
                refine (mhas g7 n (filL n L a b) x24 i _ (HS.hasP (i := 0) rfl) hok25 (by omega) (by omega)).mono ?_
                rintro e W116 ⟨rfl, H_⟩
                rw [hfd]
                refine ⟨_, rfl, ?_⟩
                replace HS : St W (owns []) W116 [many (mxE 100 77 21 113 110 g7 n (filL n L a b) x24)] := HS.join (F := []) (G := []) H_
                clear H_
                refine ql (.bool true) (by kernel_rfl) (by kernel_rfl) ?_
                refine ql (.bool true) (by kernel_rfl) (by kernel_rfl) ?_
                refine qln (by kernel_rfl) ?_
                refine ql (.bool true) (by kernel_rfl) (by kernel_rfl) ?_
                refine ql (.bool false) (by kernel_rfl) (by kernel_rfl) ?_
                refine ql (.bool false) (by kernel_rfl) (by kernel_rfl) ?_
                refine ql (.pointer (some ⟨g7, 0, none⟩)) (by kernel_rfl) (by kernel_rfl) ?_
                refine qc (f := 47) (args := #[.pointer (some ⟨g7, 0, none⟩)]) (by kernel_rfl) (R_call #[.pointer (some ⟨g7, 0, none⟩)] Try.func47 (by kernel_rfl) (by kernel_rfl) (by kernel_rfl)) ?_
                have hll117 := hok25.len (by omega)
                refine (mlen g7 n (filL n L a b) x24 _ (HS.hasP (i := 0) rfl) hok25 (by omega) (by omega)).mono ?_
                rintro e W118 ⟨rfl, H_⟩
                refine ⟨_, rfl, ?_⟩
                replace HS : St W (owns []) W118 [many (mxE 100 77 21 113 110 g7 n (filL n L a b) x24)] := HS.join (F := []) (G := []) H_
                clear H_
                refine ql (.int .i64 (L.length : Int)) (by kernel_rfl) (by kernel_rfl) ?_
                by_cases hc119 : ((filL n L a b).length : Int) < (L.length : Int)
                · skip
                  refine ql (.bool true) (by kernel_rfl) (R_bool (p := ((filL n L a b).length : Int) < (L.length : Int)) (by kernel_rfl) (hc119)) ?_
                  refine ql (.bool true) (by kernel_rfl) (by kernel_rfl) ?_
                  refine ql (.bool true) (by kernel_rfl) (by kernel_rfl) ?_
                  refine qln (by kernel_rfl) ?_
                  refine qln (by kernel_rfl) ?_
                  refine qln (by kernel_rfl) ?_
                  refine qln (by kernel_rfl) ?_
                  refine qln (by kernel_rfl) ?_
                  refine qln (by kernel_rfl) ?_
                  refine qln (by kernel_rfl) ?_
                  refine qln (by kernel_rfl) ?_
                  refine qln (by kernel_rfl) ?_
                  refine qln (by kernel_rfl) ?_
                  refine qln (by kernel_rfl) ?_
                  refine ql (.bool true) (by kernel_rfl) (by kernel_rfl) ?_
                  refine wpList_nil ?_
                  refine x_then ?_
                  refine wp_cond_true (by kernel_rfl) ?_
                  refine wp_seq ?_
                  refine wp_region_lit ?_
                  refine ql (.bool false) (by kernel_rfl) (by kernel_rfl) ?_
                  refine wpList_nil ?_
                  refine x_then ?_
                  refine wp_ret ?_
                  refine x_thenR ?_
                  refine ret_ (.bool false) (by kernel_rfl) ?_
                  exfalso; omega
                · skip
                  refine ql (.bool false) (by kernel_rfl) (R_nbool (p := ((filL n L a b).length : Int) < (L.length : Int)) (by kernel_rfl) (hc119)) ?_
                  refine ql (.bool false) (by kernel_rfl) (by kernel_rfl) ?_
                  refine ql (.bool false) (by kernel_rfl) (by kernel_rfl) ?_
                  refine ql (.pointer (some ⟨g7, 0, none⟩)) (by kernel_rfl) (by kernel_rfl) ?_
                  refine qc (f := 49) (args := #[.pointer (some ⟨g7, 0, none⟩)]) (by kernel_rfl) (R_call #[.pointer (some ⟨g7, 0, none⟩)] Try.func49 (by kernel_rfl) (by kernel_rfl) (by kernel_rfl)) ?_
                  have hwl := wrd_le hok25
                  refine (mwords g7 n (filL n L a b) x24 _ (HS.hasP (i := 0) rfl) hok25 (by omega) (by omega)).mono ?_
                  rintro e W120 ⟨rfl, H_⟩
                  refine ⟨_, rfl, ?_⟩
                  replace HS : St W (owns []) W120 [many (mxE 100 77 21 113 110 g7 n (filL n L a b) x24)] := HS.join (F := []) (G := []) H_
                  clear H_
                  refine ql (.int .i64 n) (by kernel_rfl) (by kernel_rfl) ?_
                  refine ql (.int .i64 (n + 63)) (by kernel_rfl) (R_int (by kernel_rfl) (w64 (by omega))) ?_
                  refine ql (.int .i64 ((n + 63) / 64)) (by kernel_rfl) (R_quo (by kernel_rfl) (by kernel_rfl) (by omega) (by omega) (by decide)) ?_
                  by_cases hc121 : (wrd x24 n (filL n L a b)) > ((n + 63) / 64)
                  · skip
                    refine ql (.bool true) (by kernel_rfl) (R_bool (p := (wrd x24 n (filL n L a b)) > ((n + 63) / 64)) (by kernel_rfl) (hc121)) ?_
                    refine ql (.bool true) (by kernel_rfl) (by kernel_rfl) ?_
                    refine ql (.pointer (some ⟨g7, 0, none⟩)) (by kernel_rfl) (by kernel_rfl) ?_
                    refine qc (f := 49) (args := #[.pointer (some ⟨g7, 0, none⟩)]) (by kernel_rfl) (R_call #[.pointer (some ⟨g7, 0, none⟩)] Try.func49 (by kernel_rfl) (by kernel_rfl) (by kernel_rfl)) ?_
                    refine (mwords g7 n (filL n L a b) x24 _ (HS.hasP (i := 0) rfl) hok25 (by omega) (by omega)).mono ?_
                    rintro e W122 ⟨rfl, H_⟩
                    refine ⟨_, rfl, ?_⟩
                    replace HS : St W (owns []) W122 [many (mxE 100 77 21 113 110 g7 n (filL n L a b) x24)] := HS.join (F := []) (G := []) H_
                    clear H_
                    by_cases hc123 : (wrd x24 n (filL n L a b)) > (8 : Int)
                    · skip
                      refine ql (.bool true) (by kernel_rfl) (R_bool (p := (wrd x24 n (filL n L a b)) > (8 : Int)) (by kernel_rfl) (hc123)) ?_
                      refine ql (.bool true) (by kernel_rfl) (by kernel_rfl) ?_
                      refine ql (.bool true) (by kernel_rfl) (by kernel_rfl) ?_
                      refine wpList_nil ?_
                      refine x_then ?_
                      refine wp_cond_true (by kernel_rfl) ?_
                      refine wp_seq ?_
                      refine wp_region_lit ?_
                      refine ql (.bool false) (by kernel_rfl) (by kernel_rfl) ?_
                      refine wpList_nil ?_
                      refine x_then ?_
                      refine wp_ret ?_
                      refine x_thenR ?_
                      refine ret_ (.bool false) (by kernel_rfl) ?_
                      exfalso; omega
                    · skip
                      refine ql (.bool false) (by kernel_rfl) (R_nbool (p := (wrd x24 n (filL n L a b)) > (8 : Int)) (by kernel_rfl) (hc123)) ?_
                      refine ql (.bool false) (by kernel_rfl) (by kernel_rfl) ?_
                      refine ql (.bool false) (by kernel_rfl) (by kernel_rfl) ?_
                      refine wpList_nil ?_
                      refine x_then ?_
                      refine wp_cond_false (by kernel_rfl) ?_
                      refine wp_skip ?_
                      refine x_then ?_
                      refine wp_seq ?_
                      refine wp_region_lit ?_
                      refine ql (.pointer (some ⟨g7, 0, none⟩)) (by kernel_rfl) (by kernel_rfl) ?_
                      refine qc (f := 47) (args := #[.pointer (some ⟨g7, 0, none⟩)]) (by kernel_rfl) (R_call #[.pointer (some ⟨g7, 0, none⟩)] Try.func47 (by kernel_rfl) (by kernel_rfl) (by kernel_rfl)) ?_
                      have hll124 := hok25.len (by omega)
                      refine (mlen g7 n (filL n L a b) x24 _ (HS.hasP (i := 0) rfl) hok25 (by omega) (by omega)).mono ?_
                      rintro e W125 ⟨rfl, H_⟩
                      refine ⟨_, rfl, ?_⟩
                      replace HS : St W (owns []) W125 [many (mxE 100 77 21 113 110 g7 n (filL n L a b) x24)] := HS.join (F := []) (G := []) H_
                      clear H_
                      refine ql (.int .i64 ((filL n L a b).length : Int)) (by kernel_rfl) (by kernel_rfl) ?_
                      refine wpList_nil ?_
                      refine x_then ?_
                      refine wp_seq ?_
                      refine wp_region_lit ?_
                      refine ql (.pointer (some ⟨g7, 0, none⟩)) (by kernel_rfl) (by kernel_rfl) ?_
                      refine ql (.int .i64 a) (by kernel_rfl) (by kernel_rfl) ?_
                      refine ql (.int .i64 b) (by kernel_rfl) (by kernel_rfl) ?_
                      refine qc (f := 48) (args := #[.pointer (some ⟨g7, 0, none⟩), .int .i64 a, .int .i64 b]) (by kernel_rfl) (R_call #[.pointer (some ⟨g7, 0, none⟩), .int .i64 a, .int .i64 b] Try.func48 (by kernel_rfl) (by kernel_rfl) (by kernel_rfl)) ?_
                      have hfl129 : (filL n (filL n L a b) a b) = (filL n L a b) := filL_twice n a b L
                      refine (mfill g7 n (filL n L a b) x24 a b _ _ (St.focus (F := [many (mxE 100 77 21 113 110 g7 n (filL n L a b) x24)]) HS) hok25 (by omega) (by omega)).mono ?_
                      rintro e W130 ⟨x126, rfl, H_, hok127, hb128⟩
                      rw [hfl129] at H_ hok127 hb128
                      refine ⟨_, rfl, ?_⟩
                      replace HS : St W (owns []) W130 [many (mxE 100 77 21 113 110 g7 n (filL n L a b) x126)] := HS.join (F := [many (mxE 100 77 21 113 110 g7 n (filL n L a b) x24)]) (G := [many (mxE 100 77 21 113 110 g7 n (filL n L a b) x126)]) H_
                      clear H_
                      refine wpList_nil ?_
                      refine x_then ?_
                      refine wp_seq ?_
                      refine wp_region_lit ?_
                      refine ql (.pointer (some ⟨g7, 0, none⟩)) (by kernel_rfl) (by kernel_rfl) ?_
                      refine qc (f := 47) (args := #[.pointer (some ⟨g7, 0, none⟩)]) (by kernel_rfl) (R_call #[.pointer (some ⟨g7, 0, none⟩)] Try.func47 (by kernel_rfl) (by kernel_rfl) (by kernel_rfl)) ?_
                      have hll131 := hok127.len (by omega)
                      refine (mlen g7 n (filL n L a b) x126 _ (HS.hasP (i := 0) rfl) hok127 (by omega) (by omega)).mono ?_
                      rintro e W132 ⟨rfl, H_⟩
                      refine ⟨_, rfl, ?_⟩
                      replace HS : St W (owns []) W132 [many (mxE 100 77 21 113 110 g7 n (filL n L a b) x126)] := HS.join (F := []) (G := []) H_
                      clear H_
                      refine ql (.int .i64 ((filL n L a b).length : Int)) (by kernel_rfl) (by kernel_rfl) ?_
                      refine ql (.bool true) (by kernel_rfl) (R_beq (b := (((filL n L a b).length : Int) == ((filL n L a b).length : Int))) (by kernel_rfl) (beq_t (by omega))) ?_
                      refine ql (.bool true) (by kernel_rfl) (by kernel_rfl) ?_
                      refine qc (f := 43) (args := #[]) (by kernel_rfl) (R_call #[] Try.func43 (by kernel_rfl) (by kernel_rfl) (by kernel_rfl)) ?_
                      refine (mawake _).mono ?_
                      rintro e W133 ⟨rfl, H_⟩
                      refine ⟨_, rfl, ?_⟩
                      replace HS : St W (owns []) W133 [many (mxE 100 77 21 113 110 g7 n (filL n L a b) x126)] := HS.join (F := []) (G := []) H_
                      clear H_
                      refine ql (.bool true) (by kernel_rfl) (by kernel_rfl) ?_
                      refine ql (.bool true) (by kernel_rfl) (by kernel_rfl) ?_
                      refine wpList_nil ?_
                      refine x_then ?_
                      refine wp_ret ?_
                      refine ret_ (.bool true) (by kernel_rfl) ?_
                      replace HS := HS.drop1
                      exact ⟨rfl, HS⟩
                  · skip
                    refine ql (.bool false) (by kernel_rfl) (R_nbool (p := (wrd x24 n (filL n L a b)) > ((n + 63) / 64)) (by kernel_rfl) (hc121)) ?_
                    refine ql (.bool false) (by kernel_rfl) (by kernel_rfl) ?_
                    refine qln (by kernel_rfl) ?_
                    refine qln (by kernel_rfl) ?_
                    refine qln (by kernel_rfl) ?_
                    refine ql (.bool false) (by kernel_rfl) (by kernel_rfl) ?_
                    refine ql (.bool false) (by kernel_rfl) (by kernel_rfl) ?_
                    refine wpList_nil ?_
                    refine x_then ?_
                    refine wp_cond_false (by kernel_rfl) ?_
                    refine wp_skip ?_
                    refine x_then ?_
                    refine wp_seq ?_
                    refine wp_region_lit ?_
                    refine ql (.pointer (some ⟨g7, 0, none⟩)) (by kernel_rfl) (by kernel_rfl) ?_
                    refine qc (f := 47) (args := #[.pointer (some ⟨g7, 0, none⟩)]) (by kernel_rfl) (R_call #[.pointer (some ⟨g7, 0, none⟩)] Try.func47 (by kernel_rfl) (by kernel_rfl) (by kernel_rfl)) ?_
                    have hll134 := hok25.len (by omega)
                    refine (mlen g7 n (filL n L a b) x24 _ (HS.hasP (i := 0) rfl) hok25 (by omega) (by omega)).mono ?_
                    rintro e W135 ⟨rfl, H_⟩
                    refine ⟨_, rfl, ?_⟩
                    replace HS : St W (owns []) W135 [many (mxE 100 77 21 113 110 g7 n (filL n L a b) x24)] := HS.join (F := []) (G := []) H_
                    clear H_
                    refine ql (.int .i64 ((filL n L a b).length : Int)) (by kernel_rfl) (by kernel_rfl) ?_
                    refine wpList_nil ?_
                    refine x_then ?_
                    refine wp_seq ?_
                    refine wp_region_lit ?_
                    refine ql (.pointer (some ⟨g7, 0, none⟩)) (by kernel_rfl) (by kernel_rfl) ?_
                    refine ql (.int .i64 a) (by kernel_rfl) (by kernel_rfl) ?_
                    refine ql (.int .i64 b) (by kernel_rfl) (by kernel_rfl) ?_
                    refine qc (f := 48) (args := #[.pointer (some ⟨g7, 0, none⟩), .int .i64 a, .int .i64 b]) (by kernel_rfl) (R_call #[.pointer (some ⟨g7, 0, none⟩), .int .i64 a, .int .i64 b] Try.func48 (by kernel_rfl) (by kernel_rfl) (by kernel_rfl)) ?_
                    have hfl139 : (filL n (filL n L a b) a b) = (filL n L a b) := filL_twice n a b L
                    refine (mfill g7 n (filL n L a b) x24 a b _ _ (St.focus (F := [many (mxE 100 77 21 113 110 g7 n (filL n L a b) x24)]) HS) hok25 (by omega) (by omega)).mono ?_
                    rintro e W140 ⟨x136, rfl, H_, hok137, hb138⟩
                    rw [hfl139] at H_ hok137 hb138
                    refine ⟨_, rfl, ?_⟩
                    replace HS : St W (owns []) W140 [many (mxE 100 77 21 113 110 g7 n (filL n L a b) x136)] := HS.join (F := [many (mxE 100 77 21 113 110 g7 n (filL n L a b) x24)]) (G := [many (mxE 100 77 21 113 110 g7 n (filL n L a b) x136)]) H_
                    clear H_
                    refine wpList_nil ?_
                    refine x_then ?_
                    refine wp_seq ?_
                    refine wp_region_lit ?_
                    refine ql (.pointer (some ⟨g7, 0, none⟩)) (by kernel_rfl) (by kernel_rfl) ?_
                    refine qc (f := 47) (args := #[.pointer (some ⟨g7, 0, none⟩)]) (by kernel_rfl) (R_call #[.pointer (some ⟨g7, 0, none⟩)] Try.func47 (by kernel_rfl) (by kernel_rfl) (by kernel_rfl)) ?_
                    have hll141 := hok137.len (by omega)
                    refine (mlen g7 n (filL n L a b) x136 _ (HS.hasP (i := 0) rfl) hok137 (by omega) (by omega)).mono ?_
                    rintro e W142 ⟨rfl, H_⟩
                    refine ⟨_, rfl, ?_⟩
                    replace HS : St W (owns []) W142 [many (mxE 100 77 21 113 110 g7 n (filL n L a b) x136)] := HS.join (F := []) (G := []) H_
                    clear H_
                    refine ql (.int .i64 ((filL n L a b).length : Int)) (by kernel_rfl) (by kernel_rfl) ?_
                    refine ql (.bool true) (by kernel_rfl) (R_beq (b := (((filL n L a b).length : Int) == ((filL n L a b).length : Int))) (by kernel_rfl) (beq_t (by omega))) ?_
                    refine ql (.bool true) (by kernel_rfl) (by kernel_rfl) ?_
                    refine qc (f := 43) (args := #[]) (by kernel_rfl) (R_call #[] Try.func43 (by kernel_rfl) (by kernel_rfl) (by kernel_rfl)) ?_
                    refine (mawake _).mono ?_
                    rintro e W143 ⟨rfl, H_⟩
                    refine ⟨_, rfl, ?_⟩
                    replace HS : St W (owns []) W143 [many (mxE 100 77 21 113 110 g7 n (filL n L a b) x136)] := HS.join (F := []) (G := []) H_
                    clear H_
                    refine ql (.bool true) (by kernel_rfl) (by kernel_rfl) ?_
                    refine ql (.bool true) (by kernel_rfl) (by kernel_rfl) ?_
                    refine wpList_nil ?_
                    refine x_then ?_
                    refine wp_ret ?_
                    refine ret_ (.bool true) (by kernel_rfl) ?_
                    replace HS := HS.drop1
                    exact ⟨rfl, HS⟩
            · skip
              refine ql (.bool false) (by kernel_rfl) (R_nbool (p := i ≥ a) (by kernel_rfl) (hc28)) ?_
              refine ql (.bool false) (by kernel_rfl) (by kernel_rfl) ?_
              refine qln (by kernel_rfl) ?_
              refine qln (by kernel_rfl) ?_
              refine qln (by kernel_rfl) ?_
              refine ql (.bool false) (by kernel_rfl) (by kernel_rfl) ?_
              refine ql (.bool false) (by kernel_rfl) (by kernel_rfl) ?_
              refine qln (by kernel_rfl) ?_
              refine qln (by kernel_rfl) ?_
              refine ql (.bool false) (by kernel_rfl) (by kernel_rfl) ?_
              refine ql (.bool false) (by kernel_rfl) (by kernel_rfl) ?_
              refine qln (by kernel_rfl) ?_
              refine qln (by kernel_rfl) ?_
              refine qln (by kernel_rfl) ?_
              refine ql (.bool false) (by kernel_rfl) (by kernel_rfl) ?_
              refine ql (.bool false) (by kernel_rfl) (by kernel_rfl) ?_
              refine wpList_nil ?_
              refine x_then ?_
              refine wp_seq ?_
              refine wp_seq ?_
              refine wp_region_lit ?_
              refine ql (.pointer (some ⟨g7, 0, none⟩)) (by kernel_rfl) (by kernel_rfl) ?_
              refine ql (.int .i64 i) (by kernel_rfl) (by kernel_rfl) ?_
              refine qc (f := 46) (args := #[.pointer (some ⟨g7, 0, none⟩), .int .i64 i]) (by kernel_rfl) (R_call #[.pointer (some ⟨g7, 0, none⟩), .int .i64 i] Try.func46 (by kernel_rfl) (by kernel_rfl) (by kernel_rfl)) ?_
              have hfb := mem_filL (n := n) (x := i) (a := a) (b := b) (L := L)
              have hfd : decide (i ∈ (filL n L a b)) = true := decide_eq_true (hfb.2 (.inl had))
              refine (mhas g7 n (filL n L a b) x24 i _ (HS.hasP (i := 0) rfl) hok25 (by omega) (by omega)).mono ?_
              rintro e W144 ⟨rfl, H_⟩
              rw [hfd]
              refine ⟨_, rfl, ?_⟩
              replace HS : St W (owns []) W144 [many (mxE 100 77 21 113 110 g7 n (filL n L a b) x24)] := HS.join (F := []) (G := []) H_
              clear H_
              refine ql (.bool true) (by kernel_rfl) (by kernel_rfl) ?_
              refine ql (.bool true) (by kernel_rfl) (by kernel_rfl) ?_
              refine qln (by kernel_rfl) ?_
              refine ql (.bool true) (by kernel_rfl) (by kernel_rfl) ?_
              refine ql (.bool false) (by kernel_rfl) (by kernel_rfl) ?_
              refine ql (.bool false) (by kernel_rfl) (by kernel_rfl) ?_
              refine ql (.pointer (some ⟨g7, 0, none⟩)) (by kernel_rfl) (by kernel_rfl) ?_
              refine qc (f := 47) (args := #[.pointer (some ⟨g7, 0, none⟩)]) (by kernel_rfl) (R_call #[.pointer (some ⟨g7, 0, none⟩)] Try.func47 (by kernel_rfl) (by kernel_rfl) (by kernel_rfl)) ?_
              have hll145 := hok25.len (by omega)
              refine (mlen g7 n (filL n L a b) x24 _ (HS.hasP (i := 0) rfl) hok25 (by omega) (by omega)).mono ?_
              rintro e W146 ⟨rfl, H_⟩
              refine ⟨_, rfl, ?_⟩
              replace HS : St W (owns []) W146 [many (mxE 100 77 21 113 110 g7 n (filL n L a b) x24)] := HS.join (F := []) (G := []) H_
              clear H_
              refine ql (.int .i64 (L.length : Int)) (by kernel_rfl) (by kernel_rfl) ?_
              by_cases hc147 : ((filL n L a b).length : Int) < (L.length : Int)
              · skip
                refine ql (.bool true) (by kernel_rfl) (R_bool (p := ((filL n L a b).length : Int) < (L.length : Int)) (by kernel_rfl) (hc147)) ?_
                refine ql (.bool true) (by kernel_rfl) (by kernel_rfl) ?_
                refine ql (.bool true) (by kernel_rfl) (by kernel_rfl) ?_
                refine qln (by kernel_rfl) ?_
                refine qln (by kernel_rfl) ?_
                refine qln (by kernel_rfl) ?_
                refine qln (by kernel_rfl) ?_
                refine qln (by kernel_rfl) ?_
                refine qln (by kernel_rfl) ?_
                refine qln (by kernel_rfl) ?_
                refine qln (by kernel_rfl) ?_
                refine qln (by kernel_rfl) ?_
                refine qln (by kernel_rfl) ?_
                refine qln (by kernel_rfl) ?_
                refine ql (.bool true) (by kernel_rfl) (by kernel_rfl) ?_
                refine wpList_nil ?_
                refine x_then ?_
                refine wp_cond_true (by kernel_rfl) ?_
                refine wp_seq ?_
                refine wp_region_lit ?_
                refine ql (.bool false) (by kernel_rfl) (by kernel_rfl) ?_
                refine wpList_nil ?_
                refine x_then ?_
                refine wp_ret ?_
                refine x_thenR ?_
                refine ret_ (.bool false) (by kernel_rfl) ?_
                exfalso; omega
              · skip
                refine ql (.bool false) (by kernel_rfl) (R_nbool (p := ((filL n L a b).length : Int) < (L.length : Int)) (by kernel_rfl) (hc147)) ?_
                refine ql (.bool false) (by kernel_rfl) (by kernel_rfl) ?_
                refine ql (.bool false) (by kernel_rfl) (by kernel_rfl) ?_
                refine ql (.pointer (some ⟨g7, 0, none⟩)) (by kernel_rfl) (by kernel_rfl) ?_
                refine qc (f := 49) (args := #[.pointer (some ⟨g7, 0, none⟩)]) (by kernel_rfl) (R_call #[.pointer (some ⟨g7, 0, none⟩)] Try.func49 (by kernel_rfl) (by kernel_rfl) (by kernel_rfl)) ?_
                have hwl := wrd_le hok25
                refine (mwords g7 n (filL n L a b) x24 _ (HS.hasP (i := 0) rfl) hok25 (by omega) (by omega)).mono ?_
                rintro e W148 ⟨rfl, H_⟩
                refine ⟨_, rfl, ?_⟩
                replace HS : St W (owns []) W148 [many (mxE 100 77 21 113 110 g7 n (filL n L a b) x24)] := HS.join (F := []) (G := []) H_
                clear H_
                refine ql (.int .i64 n) (by kernel_rfl) (by kernel_rfl) ?_
                refine ql (.int .i64 (n + 63)) (by kernel_rfl) (R_int (by kernel_rfl) (w64 (by omega))) ?_
                refine ql (.int .i64 ((n + 63) / 64)) (by kernel_rfl) (R_quo (by kernel_rfl) (by kernel_rfl) (by omega) (by omega) (by decide)) ?_
                by_cases hc149 : (wrd x24 n (filL n L a b)) > ((n + 63) / 64)
                · skip
                  refine ql (.bool true) (by kernel_rfl) (R_bool (p := (wrd x24 n (filL n L a b)) > ((n + 63) / 64)) (by kernel_rfl) (hc149)) ?_
                  refine ql (.bool true) (by kernel_rfl) (by kernel_rfl) ?_
                  refine ql (.pointer (some ⟨g7, 0, none⟩)) (by kernel_rfl) (by kernel_rfl) ?_
                  refine qc (f := 49) (args := #[.pointer (some ⟨g7, 0, none⟩)]) (by kernel_rfl) (R_call #[.pointer (some ⟨g7, 0, none⟩)] Try.func49 (by kernel_rfl) (by kernel_rfl) (by kernel_rfl)) ?_
                  refine (mwords g7 n (filL n L a b) x24 _ (HS.hasP (i := 0) rfl) hok25 (by omega) (by omega)).mono ?_
                  rintro e W150 ⟨rfl, H_⟩
                  refine ⟨_, rfl, ?_⟩
                  replace HS : St W (owns []) W150 [many (mxE 100 77 21 113 110 g7 n (filL n L a b) x24)] := HS.join (F := []) (G := []) H_
                  clear H_
                  by_cases hc151 : (wrd x24 n (filL n L a b)) > (8 : Int)
                  · skip
                    refine ql (.bool true) (by kernel_rfl) (R_bool (p := (wrd x24 n (filL n L a b)) > (8 : Int)) (by kernel_rfl) (hc151)) ?_
                    refine ql (.bool true) (by kernel_rfl) (by kernel_rfl) ?_
                    refine ql (.bool true) (by kernel_rfl) (by kernel_rfl) ?_
                    refine wpList_nil ?_
                    refine x_then ?_
                    refine wp_cond_true (by kernel_rfl) ?_
                    refine wp_seq ?_
                    refine wp_region_lit ?_
                    refine ql (.bool false) (by kernel_rfl) (by kernel_rfl) ?_
                    refine wpList_nil ?_
                    refine x_then ?_
                    refine wp_ret ?_
                    refine x_thenR ?_
                    refine ret_ (.bool false) (by kernel_rfl) ?_
                    exfalso; omega
                  · skip
                    refine ql (.bool false) (by kernel_rfl) (R_nbool (p := (wrd x24 n (filL n L a b)) > (8 : Int)) (by kernel_rfl) (hc151)) ?_
                    refine ql (.bool false) (by kernel_rfl) (by kernel_rfl) ?_
                    refine ql (.bool false) (by kernel_rfl) (by kernel_rfl) ?_
                    refine wpList_nil ?_
                    refine x_then ?_
                    refine wp_cond_false (by kernel_rfl) ?_
                    refine wp_skip ?_
                    refine x_then ?_
                    refine wp_seq ?_
                    refine wp_region_lit ?_
                    refine ql (.pointer (some ⟨g7, 0, none⟩)) (by kernel_rfl) (by kernel_rfl) ?_
                    refine qc (f := 47) (args := #[.pointer (some ⟨g7, 0, none⟩)]) (by kernel_rfl) (R_call #[.pointer (some ⟨g7, 0, none⟩)] Try.func47 (by kernel_rfl) (by kernel_rfl) (by kernel_rfl)) ?_
                    have hll152 := hok25.len (by omega)
                    refine (mlen g7 n (filL n L a b) x24 _ (HS.hasP (i := 0) rfl) hok25 (by omega) (by omega)).mono ?_
                    rintro e W153 ⟨rfl, H_⟩
                    refine ⟨_, rfl, ?_⟩
                    replace HS : St W (owns []) W153 [many (mxE 100 77 21 113 110 g7 n (filL n L a b) x24)] := HS.join (F := []) (G := []) H_
                    clear H_
                    refine ql (.int .i64 ((filL n L a b).length : Int)) (by kernel_rfl) (by kernel_rfl) ?_
                    refine wpList_nil ?_
                    refine x_then ?_
                    refine wp_seq ?_
                    refine wp_region_lit ?_
                    refine ql (.pointer (some ⟨g7, 0, none⟩)) (by kernel_rfl) (by kernel_rfl) ?_
                    refine ql (.int .i64 a) (by kernel_rfl) (by kernel_rfl) ?_
                    refine ql (.int .i64 b) (by kernel_rfl) (by kernel_rfl) ?_
                    refine qc (f := 48) (args := #[.pointer (some ⟨g7, 0, none⟩), .int .i64 a, .int .i64 b]) (by kernel_rfl) (R_call #[.pointer (some ⟨g7, 0, none⟩), .int .i64 a, .int .i64 b] Try.func48 (by kernel_rfl) (by kernel_rfl) (by kernel_rfl)) ?_
                    have hfl157 : (filL n (filL n L a b) a b) = (filL n L a b) := filL_twice n a b L
                    refine (mfill g7 n (filL n L a b) x24 a b _ _ (St.focus (F := [many (mxE 100 77 21 113 110 g7 n (filL n L a b) x24)]) HS) hok25 (by omega) (by omega)).mono ?_
                    rintro e W158 ⟨x154, rfl, H_, hok155, hb156⟩
                    rw [hfl157] at H_ hok155 hb156
                    refine ⟨_, rfl, ?_⟩
                    replace HS : St W (owns []) W158 [many (mxE 100 77 21 113 110 g7 n (filL n L a b) x154)] := HS.join (F := [many (mxE 100 77 21 113 110 g7 n (filL n L a b) x24)]) (G := [many (mxE 100 77 21 113 110 g7 n (filL n L a b) x154)]) H_
                    clear H_
                    refine wpList_nil ?_
                    refine x_then ?_
                    refine wp_seq ?_
                    refine wp_region_lit ?_
                    refine ql (.pointer (some ⟨g7, 0, none⟩)) (by kernel_rfl) (by kernel_rfl) ?_
                    refine qc (f := 47) (args := #[.pointer (some ⟨g7, 0, none⟩)]) (by kernel_rfl) (R_call #[.pointer (some ⟨g7, 0, none⟩)] Try.func47 (by kernel_rfl) (by kernel_rfl) (by kernel_rfl)) ?_
                    have hll159 := hok155.len (by omega)
                    refine (mlen g7 n (filL n L a b) x154 _ (HS.hasP (i := 0) rfl) hok155 (by omega) (by omega)).mono ?_
                    rintro e W160 ⟨rfl, H_⟩
                    refine ⟨_, rfl, ?_⟩
                    replace HS : St W (owns []) W160 [many (mxE 100 77 21 113 110 g7 n (filL n L a b) x154)] := HS.join (F := []) (G := []) H_
                    clear H_
                    refine ql (.int .i64 ((filL n L a b).length : Int)) (by kernel_rfl) (by kernel_rfl) ?_
                    refine ql (.bool true) (by kernel_rfl) (R_beq (b := (((filL n L a b).length : Int) == ((filL n L a b).length : Int))) (by kernel_rfl) (beq_t (by omega))) ?_
                    refine ql (.bool true) (by kernel_rfl) (by kernel_rfl) ?_
                    refine qc (f := 43) (args := #[]) (by kernel_rfl) (R_call #[] Try.func43 (by kernel_rfl) (by kernel_rfl) (by kernel_rfl)) ?_
                    refine (mawake _).mono ?_
                    rintro e W161 ⟨rfl, H_⟩
                    refine ⟨_, rfl, ?_⟩
                    replace HS : St W (owns []) W161 [many (mxE 100 77 21 113 110 g7 n (filL n L a b) x154)] := HS.join (F := []) (G := []) H_
                    clear H_
                    refine ql (.bool true) (by kernel_rfl) (by kernel_rfl) ?_
                    refine ql (.bool true) (by kernel_rfl) (by kernel_rfl) ?_
                    refine wpList_nil ?_
                    refine x_then ?_
                    refine wp_ret ?_
                    refine ret_ (.bool true) (by kernel_rfl) ?_
                    replace HS := HS.drop1
                    exact ⟨rfl, HS⟩
                · skip
                  refine ql (.bool false) (by kernel_rfl) (R_nbool (p := (wrd x24 n (filL n L a b)) > ((n + 63) / 64)) (by kernel_rfl) (hc149)) ?_
                  refine ql (.bool false) (by kernel_rfl) (by kernel_rfl) ?_
                  refine qln (by kernel_rfl) ?_
                  refine qln (by kernel_rfl) ?_
                  refine qln (by kernel_rfl) ?_
                  refine ql (.bool false) (by kernel_rfl) (by kernel_rfl) ?_
                  refine ql (.bool false) (by kernel_rfl) (by kernel_rfl) ?_
                  refine wpList_nil ?_
                  refine x_then ?_
                  refine wp_cond_false (by kernel_rfl) ?_
                  refine wp_skip ?_
                  refine x_then ?_
                  refine wp_seq ?_
                  refine wp_region_lit ?_
                  refine ql (.pointer (some ⟨g7, 0, none⟩)) (by kernel_rfl) (by kernel_rfl) ?_
                  refine qc (f := 47) (args := #[.pointer (some ⟨g7, 0, none⟩)]) (by kernel_rfl) (R_call #[.pointer (some ⟨g7, 0, none⟩)] Try.func47 (by kernel_rfl) (by kernel_rfl) (by kernel_rfl)) ?_
                  have hll162 := hok25.len (by omega)
                  refine (mlen g7 n (filL n L a b) x24 _ (HS.hasP (i := 0) rfl) hok25 (by omega) (by omega)).mono ?_
                  rintro e W163 ⟨rfl, H_⟩
                  refine ⟨_, rfl, ?_⟩
                  replace HS : St W (owns []) W163 [many (mxE 100 77 21 113 110 g7 n (filL n L a b) x24)] := HS.join (F := []) (G := []) H_
                  clear H_
                  refine ql (.int .i64 ((filL n L a b).length : Int)) (by kernel_rfl) (by kernel_rfl) ?_
                  refine wpList_nil ?_
                  refine x_then ?_
                  refine wp_seq ?_
                  refine wp_region_lit ?_
                  refine ql (.pointer (some ⟨g7, 0, none⟩)) (by kernel_rfl) (by kernel_rfl) ?_
                  refine ql (.int .i64 a) (by kernel_rfl) (by kernel_rfl) ?_
                  refine ql (.int .i64 b) (by kernel_rfl) (by kernel_rfl) ?_
                  refine qc (f := 48) (args := #[.pointer (some ⟨g7, 0, none⟩), .int .i64 a, .int .i64 b]) (by kernel_rfl) (R_call #[.pointer (some ⟨g7, 0, none⟩), .int .i64 a, .int .i64 b] Try.func48 (by kernel_rfl) (by kernel_rfl) (by kernel_rfl)) ?_
                  have hfl167 : (filL n (filL n L a b) a b) = (filL n L a b) := filL_twice n a b L
                  refine (mfill g7 n (filL n L a b) x24 a b _ _ (St.focus (F := [many (mxE 100 77 21 113 110 g7 n (filL n L a b) x24)]) HS) hok25 (by omega) (by omega)).mono ?_
                  rintro e W168 ⟨x164, rfl, H_, hok165, hb166⟩
                  rw [hfl167] at H_ hok165 hb166
                  refine ⟨_, rfl, ?_⟩
                  replace HS : St W (owns []) W168 [many (mxE 100 77 21 113 110 g7 n (filL n L a b) x164)] := HS.join (F := [many (mxE 100 77 21 113 110 g7 n (filL n L a b) x24)]) (G := [many (mxE 100 77 21 113 110 g7 n (filL n L a b) x164)]) H_
                  clear H_
                  refine wpList_nil ?_
                  refine x_then ?_
                  refine wp_seq ?_
                  refine wp_region_lit ?_
                  refine ql (.pointer (some ⟨g7, 0, none⟩)) (by kernel_rfl) (by kernel_rfl) ?_
                  refine qc (f := 47) (args := #[.pointer (some ⟨g7, 0, none⟩)]) (by kernel_rfl) (R_call #[.pointer (some ⟨g7, 0, none⟩)] Try.func47 (by kernel_rfl) (by kernel_rfl) (by kernel_rfl)) ?_
                  have hll169 := hok165.len (by omega)
                  refine (mlen g7 n (filL n L a b) x164 _ (HS.hasP (i := 0) rfl) hok165 (by omega) (by omega)).mono ?_
                  rintro e W170 ⟨rfl, H_⟩
                  refine ⟨_, rfl, ?_⟩
                  replace HS : St W (owns []) W170 [many (mxE 100 77 21 113 110 g7 n (filL n L a b) x164)] := HS.join (F := []) (G := []) H_
                  clear H_
                  refine ql (.int .i64 ((filL n L a b).length : Int)) (by kernel_rfl) (by kernel_rfl) ?_
                  refine ql (.bool true) (by kernel_rfl) (R_beq (b := (((filL n L a b).length : Int) == ((filL n L a b).length : Int))) (by kernel_rfl) (beq_t (by omega))) ?_
                  refine ql (.bool true) (by kernel_rfl) (by kernel_rfl) ?_
                  refine qc (f := 43) (args := #[]) (by kernel_rfl) (R_call #[] Try.func43 (by kernel_rfl) (by kernel_rfl) (by kernel_rfl)) ?_
                  refine (mawake _).mono ?_
                  rintro e W171 ⟨rfl, H_⟩
                  refine ⟨_, rfl, ?_⟩
                  replace HS : St W (owns []) W171 [many (mxE 100 77 21 113 110 g7 n (filL n L a b) x164)] := HS.join (F := []) (G := []) H_
                  clear H_
                  refine ql (.bool true) (by kernel_rfl) (by kernel_rfl) ?_
                  refine ql (.bool true) (by kernel_rfl) (by kernel_rfl) ?_
                  refine wpList_nil ?_
                  refine x_then ?_
                  refine wp_ret ?_
                  refine ret_ (.bool true) (by kernel_rfl) ?_
                  replace HS := HS.drop1
                  exact ⟨rfl, HS⟩
          · skip
            refine (mhas g7 n L x i _ (HS.hasP (i := 0) rfl) hok (by omega) (by omega)).mono ?_
            rintro e W172 ⟨rfl, H_⟩
            rw [decide_eq_false had]
            refine ⟨_, rfl, ?_⟩
            replace HS : St W (owns []) W172 [many (mxE 100 77 21 113 110 g7 n L x)] := HS.join (F := []) (G := []) H_
            clear H_
            refine ql (.bool false) (by kernel_rfl) (by kernel_rfl) ?_
            refine wpList_nil ?_
            refine x_then ?_
            refine wp_seq ?_
            refine wp_region_lit ?_
            refine ql (.pointer (some ⟨g7, 0, none⟩)) (by kernel_rfl) (by kernel_rfl) ?_
            refine qc (f := 47) (args := #[.pointer (some ⟨g7, 0, none⟩)]) (by kernel_rfl) (R_call #[.pointer (some ⟨g7, 0, none⟩)] Try.func47 (by kernel_rfl) (by kernel_rfl) (by kernel_rfl)) ?_
            have hll173 := hok.len (by omega)
            refine (mlen g7 n L x _ (HS.hasP (i := 0) rfl) hok (by omega) (by omega)).mono ?_
            rintro e W174 ⟨rfl, H_⟩
            refine ⟨_, rfl, ?_⟩
            replace HS : St W (owns []) W174 [many (mxE 100 77 21 113 110 g7 n L x)] := HS.join (F := []) (G := []) H_
            clear H_
            refine ql (.int .i64 (L.length : Int)) (by kernel_rfl) (by kernel_rfl) ?_
            refine wpList_nil ?_
            refine x_then ?_
            refine wp_seq ?_
            refine wp_region_lit ?_
            refine ql (.pointer (some ⟨g7, 0, none⟩)) (by kernel_rfl) (by kernel_rfl) ?_
            refine ql (.int .i64 a) (by kernel_rfl) (by kernel_rfl) ?_
            refine ql (.int .i64 b) (by kernel_rfl) (by kernel_rfl) ?_
            refine qc (f := 48) (args := #[.pointer (some ⟨g7, 0, none⟩), .int .i64 a, .int .i64 b]) (by kernel_rfl) (R_call #[.pointer (some ⟨g7, 0, none⟩), .int .i64 a, .int .i64 b] Try.func48 (by kernel_rfl) (by kernel_rfl) (by kernel_rfl)) ?_
            have hge := filL_ge n a b L
            refine (mfill g7 n L x a b _ _ (St.focus (F := [many (mxE 100 77 21 113 110 g7 n L x)]) HS) hok (by omega) (by omega)).mono ?_
            rintro e W178 ⟨x175, rfl, H_, hok176, hb177⟩
            refine ⟨_, rfl, ?_⟩
            replace HS : St W (owns []) W178 [many (mxE 100 77 21 113 110 g7 n (filL n L a b) x175)] := HS.join (F := [many (mxE 100 77 21 113 110 g7 n L x)]) (G := [many (mxE 100 77 21 113 110 g7 n (filL n L a b) x175)]) H_
            clear H_
            refine wpList_nil ?_
            refine x_then ?_
            refine wp_seq ?_
            refine wp_region_lit ?_
            refine ql (.int .i64 i) (by kernel_rfl) (by kernel_rfl) ?_
            refine ql (.int .i64 a) (by kernel_rfl) (by kernel_rfl) ?_
            by_cases hc179 : i ≥ a
            · skip
              refine ql (.bool true) (by kernel_rfl) (R_bool (p := i ≥ a) (by kernel_rfl) (hc179)) ?_
              refine ql (.bool true) (by kernel_rfl) (by kernel_rfl) ?_
              refine ql (.int .i64 i) (by kernel_rfl) (by kernel_rfl) ?_
              refine ql (.int .i64 b) (by kernel_rfl) (by kernel_rfl) ?_
              by_cases hc180 : i < b
              · skip
                refine ql (.bool true) (by kernel_rfl) (R_bool (p := i < b) (by kernel_rfl) (hc180)) ?_
                refine ql (.bool true) (by kernel_rfl) (by kernel_rfl) ?_
                refine ql (.bool true) (by kernel_rfl) (by kernel_rfl) ?_
                refine ql (.int .i64 i) (by kernel_rfl) (by kernel_rfl) ?_
                by_cases hc181 : i ≥ (0 : Int)
                · skip
                  refine ql (.bool true) (by kernel_rfl) (R_bool (p := i ≥ (0 : Int)) (by kernel_rfl) (hc181)) ?_
                  refine ql (.bool true) (by kernel_rfl) (by kernel_rfl) ?_
                  refine ql (.bool true) (by kernel_rfl) (by kernel_rfl) ?_
                  refine ql (.int .i64 i) (by kernel_rfl) (by kernel_rfl) ?_
                  refine ql (.int .i64 n) (by kernel_rfl) (by kernel_rfl) ?_
                  by_cases hc182 : i < n
                  · skip
                    refine ql (.bool true) (by kernel_rfl) (R_bool (p := i < n) (by kernel_rfl) (hc182)) ?_
                    refine ql (.bool true) (by kernel_rfl) (by kernel_rfl) ?_
                    refine ql (.bool true) (by kernel_rfl) (by kernel_rfl) ?_
                    refine wpList_nil ?_
                    refine x_then ?_
                    refine wp_seq ?_
                    refine wp_seq ?_
                    refine wp_region_lit ?_
                    refine ql (.pointer (some ⟨g7, 0, none⟩)) (by kernel_rfl) (by kernel_rfl) ?_
                    refine ql (.int .i64 i) (by kernel_rfl) (by kernel_rfl) ?_
                    refine qc (f := 46) (args := #[.pointer (some ⟨g7, 0, none⟩), .int .i64 i]) (by kernel_rfl) (R_call #[.pointer (some ⟨g7, 0, none⟩), .int .i64 i] Try.func46 (by kernel_rfl) (by kernel_rfl) (by kernel_rfl)) ?_
                    have hfb := mem_filL (n := n) (x := i) (a := a) (b := b) (L := L)
                    have hfd : decide (i ∈ (filL n L a b)) = true := decide_eq_true (hfb.2 (.inr (by omega)))
                    refine (mhas g7 n (filL n L a b) x175 i _ (HS.hasP (i := 0) rfl) hok176 (by omega) (by omega)).mono ?_
                    rintro e W183 ⟨rfl, H_⟩
                    rw [hfd]
                    refine ⟨_, rfl, ?_⟩
                    replace HS : St W (owns []) W183 [many (mxE 100 77 21 113 110 g7 n (filL n L a b) x175)] := HS.join (F := []) (G := []) H_
                    clear H_
                    refine ql (.bool false) (by kernel_rfl) (by kernel_rfl) ?_
                    refine ql (.bool false) (by kernel_rfl) (by kernel_rfl) ?_
                    refine ql (.bool true) (by kernel_rfl) (by kernel_rfl) ?_
                    refine ql (.bool true) (by kernel_rfl) (by kernel_rfl) ?_
                    refine ql (.bool false) (by kernel_rfl) (by kernel_rfl) ?_
                    refine ql (.bool false) (by kernel_rfl) (by kernel_rfl) ?_
                    refine ql (.pointer (some ⟨g7, 0, none⟩)) (by kernel_rfl) (by kernel_rfl) ?_
                    refine qc (f := 47) (args := #[.pointer (some ⟨g7, 0, none⟩)]) (by kernel_rfl) (R_call #[.pointer (some ⟨g7, 0, none⟩)] Try.func47 (by kernel_rfl) (by kernel_rfl) (by kernel_rfl)) ?_
                    have hll184 := hok176.len (by omega)
                    refine (mlen g7 n (filL n L a b) x175 _ (HS.hasP (i := 0) rfl) hok176 (by omega) (by omega)).mono ?_
                    rintro e W185 ⟨rfl, H_⟩
                    refine ⟨_, rfl, ?_⟩
                    replace HS : St W (owns []) W185 [many (mxE 100 77 21 113 110 g7 n (filL n L a b) x175)] := HS.join (F := []) (G := []) H_
                    clear H_
                    refine ql (.int .i64 (L.length : Int)) (by kernel_rfl) (by kernel_rfl) ?_
                    by_cases hc186 : ((filL n L a b).length : Int) < (L.length : Int)
                    · skip
                      refine ql (.bool true) (by kernel_rfl) (R_bool (p := ((filL n L a b).length : Int) < (L.length : Int)) (by kernel_rfl) (hc186)) ?_
                      refine ql (.bool true) (by kernel_rfl) (by kernel_rfl) ?_
                      refine ql (.bool true) (by kernel_rfl) (by kernel_rfl) ?_
                      refine qln (by kernel_rfl) ?_
                      refine qln (by kernel_rfl) ?_
                      refine qln (by kernel_rfl) ?_
                      refine qln (by kernel_rfl) ?_
                      refine qln (by kernel_rfl) ?_
                      refine qln (by kernel_rfl) ?_
                      refine qln (by kernel_rfl) ?_
                      refine qln (by kernel_rfl) ?_
                      refine qln (by kernel_rfl) ?_
                      refine qln (by kernel_rfl) ?_
                      refine qln (by kernel_rfl) ?_
                      refine ql (.bool true) (by kernel_rfl) (by kernel_rfl) ?_
                      refine wpList_nil ?_
                      refine x_then ?_
                      refine wp_cond_true (by kernel_rfl) ?_
                      refine wp_seq ?_
                      refine wp_region_lit ?_
                      refine ql (.bool false) (by kernel_rfl) (by kernel_rfl) ?_
                      refine wpList_nil ?_
                      refine x_then ?_
                      refine wp_ret ?_
                      refine x_thenR ?_
                      refine ret_ (.bool false) (by kernel_rfl) ?_
                      exfalso; omega
                    · skip
                      refine ql (.bool false) (by kernel_rfl) (R_nbool (p := ((filL n L a b).length : Int) < (L.length : Int)) (by kernel_rfl) (hc186)) ?_
                      refine ql (.bool false) (by kernel_rfl) (by kernel_rfl) ?_
                      refine ql (.bool false) (by kernel_rfl) (by kernel_rfl) ?_
                      refine ql (.pointer (some ⟨g7, 0, none⟩)) (by kernel_rfl) (by kernel_rfl) ?_
                      refine qc (f := 49) (args := #[.pointer (some ⟨g7, 0, none⟩)]) (by kernel_rfl) (R_call #[.pointer (some ⟨g7, 0, none⟩)] Try.func49 (by kernel_rfl) (by kernel_rfl) (by kernel_rfl)) ?_
                      have hwl := wrd_le hok176
                      refine (mwords g7 n (filL n L a b) x175 _ (HS.hasP (i := 0) rfl) hok176 (by omega) (by omega)).mono ?_
                      rintro e W187 ⟨rfl, H_⟩
                      refine ⟨_, rfl, ?_⟩
                      replace HS : St W (owns []) W187 [many (mxE 100 77 21 113 110 g7 n (filL n L a b) x175)] := HS.join (F := []) (G := []) H_
                      clear H_
                      refine ql (.int .i64 n) (by kernel_rfl) (by kernel_rfl) ?_
                      refine ql (.int .i64 (n + 63)) (by kernel_rfl) (R_int (by kernel_rfl) (w64 (by omega))) ?_
                      refine ql (.int .i64 ((n + 63) / 64)) (by kernel_rfl) (R_quo (by kernel_rfl) (by kernel_rfl) (by omega) (by omega) (by decide)) ?_
                      by_cases hc188 : (wrd x175 n (filL n L a b)) > ((n + 63) / 64)
                      · skip
                        refine ql (.bool true) (by kernel_rfl) (R_bool (p := (wrd x175 n (filL n L a b)) > ((n + 63) / 64)) (by kernel_rfl) (hc188)) ?_
                        refine ql (.bool true) (by kernel_rfl) (by kernel_rfl) ?_
                        refine ql (.pointer (some ⟨g7, 0, none⟩)) (by kernel_rfl) (by kernel_rfl) ?_
                        refine qc (f := 49) (args := #[.pointer (some ⟨g7, 0, none⟩)]) (by kernel_rfl) (R_call #[.pointer (some ⟨g7, 0, none⟩)] Try.func49 (by kernel_rfl) (by kernel_rfl) (by kernel_rfl)) ?_
                        refine (mwords g7 n (filL n L a b) x175 _ (HS.hasP (i := 0) rfl) hok176 (by omega) (by omega)).mono ?_
                        rintro e W189 ⟨rfl, H_⟩
                        refine ⟨_, rfl, ?_⟩
                        replace HS : St W (owns []) W189 [many (mxE 100 77 21 113 110 g7 n (filL n L a b) x175)] := HS.join (F := []) (G := []) H_
                        clear H_
                        by_cases hc190 : (wrd x175 n (filL n L a b)) > (8 : Int)
                        · skip
                          refine ql (.bool true) (by kernel_rfl) (R_bool (p := (wrd x175 n (filL n L a b)) > (8 : Int)) (by kernel_rfl) (hc190)) ?_
                          refine ql (.bool true) (by kernel_rfl) (by kernel_rfl) ?_
                          refine ql (.bool true) (by kernel_rfl) (by kernel_rfl) ?_
                          refine wpList_nil ?_
                          refine x_then ?_
                          refine wp_cond_true (by kernel_rfl) ?_
                          refine wp_seq ?_
                          refine wp_region_lit ?_
                          refine ql (.bool false) (by kernel_rfl) (by kernel_rfl) ?_
                          refine wpList_nil ?_
                          refine x_then ?_
                          refine wp_ret ?_
                          refine x_thenR ?_
                          refine ret_ (.bool false) (by kernel_rfl) ?_
                          exfalso; omega
                        · skip
                          refine ql (.bool false) (by kernel_rfl) (R_nbool (p := (wrd x175 n (filL n L a b)) > (8 : Int)) (by kernel_rfl) (hc190)) ?_
                          refine ql (.bool false) (by kernel_rfl) (by kernel_rfl) ?_
                          refine ql (.bool false) (by kernel_rfl) (by kernel_rfl) ?_
                          refine wpList_nil ?_
                          refine x_then ?_
                          refine wp_cond_false (by kernel_rfl) ?_
                          refine wp_skip ?_
                          refine x_then ?_
                          refine wp_seq ?_
                          refine wp_region_lit ?_
                          refine ql (.pointer (some ⟨g7, 0, none⟩)) (by kernel_rfl) (by kernel_rfl) ?_
                          refine qc (f := 47) (args := #[.pointer (some ⟨g7, 0, none⟩)]) (by kernel_rfl) (R_call #[.pointer (some ⟨g7, 0, none⟩)] Try.func47 (by kernel_rfl) (by kernel_rfl) (by kernel_rfl)) ?_
                          have hll191 := hok176.len (by omega)
                          refine (mlen g7 n (filL n L a b) x175 _ (HS.hasP (i := 0) rfl) hok176 (by omega) (by omega)).mono ?_
                          rintro e W192 ⟨rfl, H_⟩
                          refine ⟨_, rfl, ?_⟩
                          replace HS : St W (owns []) W192 [many (mxE 100 77 21 113 110 g7 n (filL n L a b) x175)] := HS.join (F := []) (G := []) H_
                          clear H_
                          refine ql (.int .i64 ((filL n L a b).length : Int)) (by kernel_rfl) (by kernel_rfl) ?_
                          refine wpList_nil ?_
                          refine x_then ?_
                          refine wp_seq ?_
                          refine wp_region_lit ?_
                          refine ql (.pointer (some ⟨g7, 0, none⟩)) (by kernel_rfl) (by kernel_rfl) ?_
                          refine ql (.int .i64 a) (by kernel_rfl) (by kernel_rfl) ?_
                          refine ql (.int .i64 b) (by kernel_rfl) (by kernel_rfl) ?_
                          refine qc (f := 48) (args := #[.pointer (some ⟨g7, 0, none⟩), .int .i64 a, .int .i64 b]) (by kernel_rfl) (R_call #[.pointer (some ⟨g7, 0, none⟩), .int .i64 a, .int .i64 b] Try.func48 (by kernel_rfl) (by kernel_rfl) (by kernel_rfl)) ?_
                          have hfl196 : (filL n (filL n L a b) a b) = (filL n L a b) := filL_twice n a b L
                          refine (mfill g7 n (filL n L a b) x175 a b _ _ (St.focus (F := [many (mxE 100 77 21 113 110 g7 n (filL n L a b) x175)]) HS) hok176 (by omega) (by omega)).mono ?_
                          rintro e W197 ⟨x193, rfl, H_, hok194, hb195⟩
                          rw [hfl196] at H_ hok194 hb195
                          refine ⟨_, rfl, ?_⟩
                          replace HS : St W (owns []) W197 [many (mxE 100 77 21 113 110 g7 n (filL n L a b) x193)] := HS.join (F := [many (mxE 100 77 21 113 110 g7 n (filL n L a b) x175)]) (G := [many (mxE 100 77 21 113 110 g7 n (filL n L a b) x193)]) H_
                          clear H_
                          refine wpList_nil ?_
                          refine x_then ?_
                          refine wp_seq ?_
                          refine wp_region_lit ?_
                          refine ql (.pointer (some ⟨g7, 0, none⟩)) (by kernel_rfl) (by kernel_rfl) ?_
                          refine qc (f := 47) (args := #[.pointer (some ⟨g7, 0, none⟩)]) (by kernel_rfl) (R_call #[.pointer (some ⟨g7, 0, none⟩)] Try.func47 (by kernel_rfl) (by kernel_rfl) (by kernel_rfl)) ?_
                          have hll198 := hok194.len (by omega)
                          refine (mlen g7 n (filL n L a b) x193 _ (HS.hasP (i := 0) rfl) hok194 (by omega) (by omega)).mono ?_
                          rintro e W199 ⟨rfl, H_⟩
                          refine ⟨_, rfl, ?_⟩
                          replace HS : St W (owns []) W199 [many (mxE 100 77 21 113 110 g7 n (filL n L a b) x193)] := HS.join (F := []) (G := []) H_
                          clear H_
                          refine ql (.int .i64 ((filL n L a b).length : Int)) (by kernel_rfl) (by kernel_rfl) ?_
                          refine ql (.bool true) (by kernel_rfl) (R_beq (b := (((filL n L a b).length : Int) == ((filL n L a b).length : Int))) (by kernel_rfl) (beq_t (by omega))) ?_
                          refine ql (.bool true) (by kernel_rfl) (by kernel_rfl) ?_
                          refine qc (f := 43) (args := #[]) (by kernel_rfl) (R_call #[] Try.func43 (by kernel_rfl) (by kernel_rfl) (by kernel_rfl)) ?_
                          refine (mawake _).mono ?_
                          rintro e W200 ⟨rfl, H_⟩
                          refine ⟨_, rfl, ?_⟩
                          replace HS : St W (owns []) W200 [many (mxE 100 77 21 113 110 g7 n (filL n L a b) x193)] := HS.join (F := []) (G := []) H_
                          clear H_
                          refine ql (.bool true) (by kernel_rfl) (by kernel_rfl) ?_
                          refine ql (.bool true) (by kernel_rfl) (by kernel_rfl) ?_
                          refine wpList_nil ?_
                          refine x_then ?_
                          refine wp_ret ?_
                          refine ret_ (.bool true) (by kernel_rfl) ?_
                          replace HS := HS.drop1
                          exact ⟨rfl, HS⟩
                      · skip
                        refine ql (.bool false) (by kernel_rfl) (R_nbool (p := (wrd x175 n (filL n L a b)) > ((n + 63) / 64)) (by kernel_rfl) (hc188)) ?_
                        refine ql (.bool false) (by kernel_rfl) (by kernel_rfl) ?_
                        refine qln (by kernel_rfl) ?_
                        refine qln (by kernel_rfl) ?_
                        refine qln (by kernel_rfl) ?_
                        refine ql (.bool false) (by kernel_rfl) (by kernel_rfl) ?_
                        refine ql (.bool false) (by kernel_rfl) (by kernel_rfl) ?_
                        refine wpList_nil ?_
                        refine x_then ?_
                        refine wp_cond_false (by kernel_rfl) ?_
                        refine wp_skip ?_
                        refine x_then ?_
                        refine wp_seq ?_
                        refine wp_region_lit ?_
                        refine ql (.pointer (some ⟨g7, 0, none⟩)) (by kernel_rfl) (by kernel_rfl) ?_
                        refine qc (f := 47) (args := #[.pointer (some ⟨g7, 0, none⟩)]) (by kernel_rfl) (R_call #[.pointer (some ⟨g7, 0, none⟩)] Try.func47 (by kernel_rfl) (by kernel_rfl) (by kernel_rfl)) ?_
                        have hll201 := hok176.len (by omega)
                        refine (mlen g7 n (filL n L a b) x175 _ (HS.hasP (i := 0) rfl) hok176 (by omega) (by omega)).mono ?_
                        rintro e W202 ⟨rfl, H_⟩
                        refine ⟨_, rfl, ?_⟩
                        replace HS : St W (owns []) W202 [many (mxE 100 77 21 113 110 g7 n (filL n L a b) x175)] := HS.join (F := []) (G := []) H_
                        clear H_
                        refine ql (.int .i64 ((filL n L a b).length : Int)) (by kernel_rfl) (by kernel_rfl) ?_
                        refine wpList_nil ?_
                        refine x_then ?_
                        refine wp_seq ?_
                        refine wp_region_lit ?_
                        refine ql (.pointer (some ⟨g7, 0, none⟩)) (by kernel_rfl) (by kernel_rfl) ?_
                        refine ql (.int .i64 a) (by kernel_rfl) (by kernel_rfl) ?_
                        refine ql (.int .i64 b) (by kernel_rfl) (by kernel_rfl) ?_
                        refine qc (f := 48) (args := #[.pointer (some ⟨g7, 0, none⟩), .int .i64 a, .int .i64 b]) (by kernel_rfl) (R_call #[.pointer (some ⟨g7, 0, none⟩), .int .i64 a, .int .i64 b] Try.func48 (by kernel_rfl) (by kernel_rfl) (by kernel_rfl)) ?_
                        have hfl206 : (filL n (filL n L a b) a b) = (filL n L a b) := filL_twice n a b L
                        refine (mfill g7 n (filL n L a b) x175 a b _ _ (St.focus (F := [many (mxE 100 77 21 113 110 g7 n (filL n L a b) x175)]) HS) hok176 (by omega) (by omega)).mono ?_
                        rintro e W207 ⟨x203, rfl, H_, hok204, hb205⟩
                        rw [hfl206] at H_ hok204 hb205
                        refine ⟨_, rfl, ?_⟩
                        replace HS : St W (owns []) W207 [many (mxE 100 77 21 113 110 g7 n (filL n L a b) x203)] := HS.join (F := [many (mxE 100 77 21 113 110 g7 n (filL n L a b) x175)]) (G := [many (mxE 100 77 21 113 110 g7 n (filL n L a b) x203)]) H_
                        clear H_
                        refine wpList_nil ?_
                        refine x_then ?_
                        refine wp_seq ?_
                        refine wp_region_lit ?_
                        refine ql (.pointer (some ⟨g7, 0, none⟩)) (by kernel_rfl) (by kernel_rfl) ?_
                        refine qc (f := 47) (args := #[.pointer (some ⟨g7, 0, none⟩)]) (by kernel_rfl) (R_call #[.pointer (some ⟨g7, 0, none⟩)] Try.func47 (by kernel_rfl) (by kernel_rfl) (by kernel_rfl)) ?_
                        have hll208 := hok204.len (by omega)
                        refine (mlen g7 n (filL n L a b) x203 _ (HS.hasP (i := 0) rfl) hok204 (by omega) (by omega)).mono ?_
                        rintro e W209 ⟨rfl, H_⟩
                        refine ⟨_, rfl, ?_⟩
                        replace HS : St W (owns []) W209 [many (mxE 100 77 21 113 110 g7 n (filL n L a b) x203)] := HS.join (F := []) (G := []) H_
                        clear H_
                        refine ql (.int .i64 ((filL n L a b).length : Int)) (by kernel_rfl) (by kernel_rfl) ?_
                        refine ql (.bool true) (by kernel_rfl) (R_beq (b := (((filL n L a b).length : Int) == ((filL n L a b).length : Int))) (by kernel_rfl) (beq_t (by omega))) ?_
                        refine ql (.bool true) (by kernel_rfl) (by kernel_rfl) ?_
                        refine qc (f := 43) (args := #[]) (by kernel_rfl) (R_call #[] Try.func43 (by kernel_rfl) (by kernel_rfl) (by kernel_rfl)) ?_
                        refine (mawake _).mono ?_
                        rintro e W210 ⟨rfl, H_⟩
                        refine ⟨_, rfl, ?_⟩
                        replace HS : St W (owns []) W210 [many (mxE 100 77 21 113 110 g7 n (filL n L a b) x203)] := HS.join (F := []) (G := []) H_
                        clear H_
                        refine ql (.bool true) (by kernel_rfl) (by kernel_rfl) ?_
                        refine ql (.bool true) (by kernel_rfl) (by kernel_rfl) ?_
                        refine wpList_nil ?_
                        refine x_then ?_
                        refine wp_ret ?_
                        refine ret_ (.bool true) (by kernel_rfl) ?_
                        replace HS := HS.drop1
                        exact ⟨rfl, HS⟩
                  · skip
                    refine ql (.bool false) (by kernel_rfl) (R_nbool (p := i < n) (by kernel_rfl) (hc182)) ?_
                    refine ql (.bool false) (by kernel_rfl) (by kernel_rfl) ?_
                    refine ql (.bool false) (by kernel_rfl) (by kernel_rfl) ?_
                    refine wpList_nil ?_
                    refine x_then ?_
                    refine wp_seq ?_
                    refine wp_seq ?_
                    refine wp_region_lit ?_
                    refine ql (.pointer (some ⟨g7, 0, none⟩)) (by kernel_rfl) (by kernel_rfl) ?_
                    refine ql (.int .i64 i) (by kernel_rfl) (by kernel_rfl) ?_
                    refine qc (f := 46) (args := #[.pointer (some ⟨g7, 0, none⟩), .int .i64 i]) (by kernel_rfl) (R_call #[.pointer (some ⟨g7, 0, none⟩), .int .i64 i] Try.func46 (by kernel_rfl) (by kernel_rfl) (by kernel_rfl)) ?_
                    have hfb := mem_filL (n := n) (x := i) (a := a) (b := b) (L := L)
                    have hfd : decide (i ∈ (filL n L a b)) = false := decide_eq_false (fun h_ => (hfb.1 h_).elim had (fun h_ => by omega))
                    refine (mhas g7 n (filL n L a b) x175 i _ (HS.hasP (i := 0) rfl) hok176 (by omega) (by omega)).mono ?_
                    rintro e W211 ⟨rfl, H_⟩
                    rw [hfd]
                    refine ⟨_, rfl, ?_⟩
                    replace HS : St W (owns []) W211 [many (mxE 100 77 21 113 110 g7 n (filL n L a b) x175)] := HS.join (F := []) (G := []) H_
                    clear H_
                    refine ql (.bool false) (by kernel_rfl) (by kernel_rfl) ?_
                    refine ql (.bool false) (by kernel_rfl) (by kernel_rfl) ?_
                    refine ql (.bool false) (by kernel_rfl) (by kernel_rfl) ?_
                    refine ql (.bool false) (by kernel_rfl) (by kernel_rfl) ?_
                    refine ql (.bool false) (by kernel_rfl) (by kernel_rfl) ?_
                    refine ql (.bool false) (by kernel_rfl) (by kernel_rfl) ?_
                    refine ql (.pointer (some ⟨g7, 0, none⟩)) (by kernel_rfl) (by kernel_rfl) ?_
                    refine qc (f := 47) (args := #[.pointer (some ⟨g7, 0, none⟩)]) (by kernel_rfl) (R_call #[.pointer (some ⟨g7, 0, none⟩)] Try.func47 (by kernel_rfl) (by kernel_rfl) (by kernel_rfl)) ?_
                    have hll212 := hok176.len (by omega)
                    refine (mlen g7 n (filL n L a b) x175 _ (HS.hasP (i := 0) rfl) hok176 (by omega) (by omega)).mono ?_
                    rintro e W213 ⟨rfl, H_⟩
                    refine ⟨_, rfl, ?_⟩
                    replace HS : St W (owns []) W213 [many (mxE 100 77 21 113 110 g7 n (filL n L a b) x175)] := HS.join (F := []) (G := []) H_
                    clear H_
                    refine ql (.int .i64 (L.length : Int)) (by kernel_rfl) (by kernel_rfl) ?_
                    by_cases hc214 : ((filL n L a b).length : Int) < (L.length : Int)
                    · skip
                      refine ql (.bool true) (by kernel_rfl) (R_bool (p := ((filL n L a b).length : Int) < (L.length : Int)) (by kernel_rfl) (hc214)) ?_
                      refine ql (.bool true) (by kernel_rfl) (by kernel_rfl) ?_
                      refine ql (.bool true) (by kernel_rfl) (by kernel_rfl) ?_
                      refine qln (by kernel_rfl) ?_
                      refine qln (by kernel_rfl) ?_
                      refine qln (by kernel_rfl) ?_
                      refine qln (by kernel_rfl) ?_
                      refine qln (by kernel_rfl) ?_
                      refine qln (by kernel_rfl) ?_
                      refine qln (by kernel_rfl) ?_
                      refine qln (by kernel_rfl) ?_
                      refine qln (by kernel_rfl) ?_
                      refine qln (by kernel_rfl) ?_
                      refine qln (by kernel_rfl) ?_
                      refine ql (.bool true) (by kernel_rfl) (by kernel_rfl) ?_
                      refine wpList_nil ?_
                      refine x_then ?_
                      refine wp_cond_true (by kernel_rfl) ?_
                      refine wp_seq ?_
                      refine wp_region_lit ?_
                      refine ql (.bool false) (by kernel_rfl) (by kernel_rfl) ?_
                      refine wpList_nil ?_
                      refine x_then ?_
                      refine wp_ret ?_
                      refine x_thenR ?_
                      refine ret_ (.bool false) (by kernel_rfl) ?_
                      exfalso; omega
                    · skip
                      refine ql (.bool false) (by kernel_rfl) (R_nbool (p := ((filL n L a b).length : Int) < (L.length : Int)) (by kernel_rfl) (hc214)) ?_
                      refine ql (.bool false) (by kernel_rfl) (by kernel_rfl) ?_
                      refine ql (.bool false) (by kernel_rfl) (by kernel_rfl) ?_
                      refine ql (.pointer (some ⟨g7, 0, none⟩)) (by kernel_rfl) (by kernel_rfl) ?_
                      refine qc (f := 49) (args := #[.pointer (some ⟨g7, 0, none⟩)]) (by kernel_rfl) (R_call #[.pointer (some ⟨g7, 0, none⟩)] Try.func49 (by kernel_rfl) (by kernel_rfl) (by kernel_rfl)) ?_
                      have hwl := wrd_le hok176
                      refine (mwords g7 n (filL n L a b) x175 _ (HS.hasP (i := 0) rfl) hok176 (by omega) (by omega)).mono ?_
                      rintro e W215 ⟨rfl, H_⟩
                      refine ⟨_, rfl, ?_⟩
                      replace HS : St W (owns []) W215 [many (mxE 100 77 21 113 110 g7 n (filL n L a b) x175)] := HS.join (F := []) (G := []) H_
                      clear H_
                      refine ql (.int .i64 n) (by kernel_rfl) (by kernel_rfl) ?_
                      refine ql (.int .i64 (n + 63)) (by kernel_rfl) (R_int (by kernel_rfl) (w64 (by omega))) ?_
                      refine ql (.int .i64 ((n + 63) / 64)) (by kernel_rfl) (R_quo (by kernel_rfl) (by kernel_rfl) (by omega) (by omega) (by decide)) ?_
                      by_cases hc216 : (wrd x175 n (filL n L a b)) > ((n + 63) / 64)
                      · skip
                        refine ql (.bool true) (by kernel_rfl) (R_bool (p := (wrd x175 n (filL n L a b)) > ((n + 63) / 64)) (by kernel_rfl) (hc216)) ?_
                        refine ql (.bool true) (by kernel_rfl) (by kernel_rfl) ?_
                        refine ql (.pointer (some ⟨g7, 0, none⟩)) (by kernel_rfl) (by kernel_rfl) ?_
                        refine qc (f := 49) (args := #[.pointer (some ⟨g7, 0, none⟩)]) (by kernel_rfl) (R_call #[.pointer (some ⟨g7, 0, none⟩)] Try.func49 (by kernel_rfl) (by kernel_rfl) (by kernel_rfl)) ?_
                        refine (mwords g7 n (filL n L a b) x175 _ (HS.hasP (i := 0) rfl) hok176 (by omega) (by omega)).mono ?_
                        rintro e W217 ⟨rfl, H_⟩
                        refine ⟨_, rfl, ?_⟩
                        replace HS : St W (owns []) W217 [many (mxE 100 77 21 113 110 g7 n (filL n L a b) x175)] := HS.join (F := []) (G := []) H_
                        clear H_
                        by_cases hc218 : (wrd x175 n (filL n L a b)) > (8 : Int)
                        · skip
                          refine ql (.bool true) (by kernel_rfl) (R_bool (p := (wrd x175 n (filL n L a b)) > (8 : Int)) (by kernel_rfl) (hc218)) ?_
                          refine ql (.bool true) (by kernel_rfl) (by kernel_rfl) ?_
                          refine ql (.bool true) (by kernel_rfl) (by kernel_rfl) ?_
                          refine wpList_nil ?_
                          refine x_then ?_
                          refine wp_cond_true (by kernel_rfl) ?_
                          refine wp_seq ?_
                          refine wp_region_lit ?_
                          refine ql (.bool false) (by kernel_rfl) (by kernel_rfl) ?_
                          refine wpList_nil ?_
                          refine x_then ?_
                          refine wp_ret ?_
                          refine x_thenR ?_
                          refine ret_ (.bool false) (by kernel_rfl) ?_
                          exfalso; omega
                        · skip
                          refine ql (.bool false) (by kernel_rfl) (R_nbool (p := (wrd x175 n (filL n L a b)) > (8 : Int)) (by kernel_rfl) (hc218)) ?_
                          refine ql (.bool false) (by kernel_rfl) (by kernel_rfl) ?_
                          refine ql (.bool false) (by kernel_rfl) (by kernel_rfl) ?_
                          refine wpList_nil ?_
                          refine x_then ?_
                          refine wp_cond_false (by kernel_rfl) ?_
                          refine wp_skip ?_
                          refine x_then ?_
                          refine wp_seq ?_
                          refine wp_region_lit ?_
                          refine ql (.pointer (some ⟨g7, 0, none⟩)) (by kernel_rfl) (by kernel_rfl) ?_
                          refine qc (f := 47) (args := #[.pointer (some ⟨g7, 0, none⟩)]) (by kernel_rfl) (R_call #[.pointer (some ⟨g7, 0, none⟩)] Try.func47 (by kernel_rfl) (by kernel_rfl) (by kernel_rfl)) ?_
                          have hll219 := hok176.len (by omega)
                          refine (mlen g7 n (filL n L a b) x175 _ (HS.hasP (i := 0) rfl) hok176 (by omega) (by omega)).mono ?_
                          rintro e W220 ⟨rfl, H_⟩
                          refine ⟨_, rfl, ?_⟩
                          replace HS : St W (owns []) W220 [many (mxE 100 77 21 113 110 g7 n (filL n L a b) x175)] := HS.join (F := []) (G := []) H_
                          clear H_
                          refine ql (.int .i64 ((filL n L a b).length : Int)) (by kernel_rfl) (by kernel_rfl) ?_
                          refine wpList_nil ?_
                          refine x_then ?_
                          refine wp_seq ?_
                          refine wp_region_lit ?_
                          refine ql (.pointer (some ⟨g7, 0, none⟩)) (by kernel_rfl) (by kernel_rfl) ?_
                          refine ql (.int .i64 a) (by kernel_rfl) (by kernel_rfl) ?_
                          refine ql (.int .i64 b) (by kernel_rfl) (by kernel_rfl) ?_
                          refine qc (f := 48) (args := #[.pointer (some ⟨g7, 0, none⟩), .int .i64 a, .int .i64 b]) (by kernel_rfl) (R_call #[.pointer (some ⟨g7, 0, none⟩), .int .i64 a, .int .i64 b] Try.func48 (by kernel_rfl) (by kernel_rfl) (by kernel_rfl)) ?_
                          have hfl224 : (filL n (filL n L a b) a b) = (filL n L a b) := filL_twice n a b L
                          refine (mfill g7 n (filL n L a b) x175 a b _ _ (St.focus (F := [many (mxE 100 77 21 113 110 g7 n (filL n L a b) x175)]) HS) hok176 (by omega) (by omega)).mono ?_
                          rintro e W225 ⟨x221, rfl, H_, hok222, hb223⟩
                          rw [hfl224] at H_ hok222 hb223
                          refine ⟨_, rfl, ?_⟩
                          replace HS : St W (owns []) W225 [many (mxE 100 77 21 113 110 g7 n (filL n L a b) x221)] := HS.join (F := [many (mxE 100 77 21 113 110 g7 n (filL n L a b) x175)]) (G := [many (mxE 100 77 21 113 110 g7 n (filL n L a b) x221)]) H_
                          clear H_
                          refine wpList_nil ?_
                          refine x_then ?_
                          refine wp_seq ?_
                          refine wp_region_lit ?_
                          refine ql (.pointer (some ⟨g7, 0, none⟩)) (by kernel_rfl) (by kernel_rfl) ?_
                          refine qc (f := 47) (args := #[.pointer (some ⟨g7, 0, none⟩)]) (by kernel_rfl) (R_call #[.pointer (some ⟨g7, 0, none⟩)] Try.func47 (by kernel_rfl) (by kernel_rfl) (by kernel_rfl)) ?_
                          have hll226 := hok222.len (by omega)
                          refine (mlen g7 n (filL n L a b) x221 _ (HS.hasP (i := 0) rfl) hok222 (by omega) (by omega)).mono ?_
                          rintro e W227 ⟨rfl, H_⟩
                          refine ⟨_, rfl, ?_⟩
                          replace HS : St W (owns []) W227 [many (mxE 100 77 21 113 110 g7 n (filL n L a b) x221)] := HS.join (F := []) (G := []) H_
                          clear H_
                          refine ql (.int .i64 ((filL n L a b).length : Int)) (by kernel_rfl) (by kernel_rfl) ?_
                          refine ql (.bool true) (by kernel_rfl) (R_beq (b := (((filL n L a b).length : Int) == ((filL n L a b).length : Int))) (by kernel_rfl) (beq_t (by omega))) ?_
                          refine ql (.bool true) (by kernel_rfl) (by kernel_rfl) ?_
                          refine qc (f := 43) (args := #[]) (by kernel_rfl) (R_call #[] Try.func43 (by kernel_rfl) (by kernel_rfl) (by kernel_rfl)) ?_
                          refine (mawake _).mono ?_
                          rintro e W228 ⟨rfl, H_⟩
                          refine ⟨_, rfl, ?_⟩
                          replace HS : St W (owns []) W228 [many (mxE 100 77 21 113 110 g7 n (filL n L a b) x221)] := HS.join (F := []) (G := []) H_
                          clear H_
                          refine ql (.bool true) (by kernel_rfl) (by kernel_rfl) ?_
                          refine ql (.bool true) (by kernel_rfl) (by kernel_rfl) ?_
                          refine wpList_nil ?_
                          refine x_then ?_
                          refine wp_ret ?_
                          refine ret_ (.bool true) (by kernel_rfl) ?_
                          replace HS := HS.drop1
                          exact ⟨rfl, HS⟩
                      · skip
                        refine ql (.bool false) (by kernel_rfl) (R_nbool (p := (wrd x175 n (filL n L a b)) > ((n + 63) / 64)) (by kernel_rfl) (hc216)) ?_
                        refine ql (.bool false) (by kernel_rfl) (by kernel_rfl) ?_
                        refine qln (by kernel_rfl) ?_
                        refine qln (by kernel_rfl) ?_
                        refine qln (by kernel_rfl) ?_
                        refine ql (.bool false) (by kernel_rfl) (by kernel_rfl) ?_
                        refine ql (.bool false) (by kernel_rfl) (by kernel_rfl) ?_
                        refine wpList_nil ?_
                        refine x_then ?_
                        refine wp_cond_false (by kernel_rfl) ?_
                        refine wp_skip ?_
                        refine x_then ?_
                        refine wp_seq ?_
                        refine wp_region_lit ?_
                        refine ql (.pointer (some ⟨g7, 0, none⟩)) (by kernel_rfl) (by kernel_rfl) ?_
                        refine qc (f := 47) (args := #[.pointer (some ⟨g7, 0, none⟩)]) (by kernel_rfl) (R_call #[.pointer (some ⟨g7, 0, none⟩)] Try.func47 (by kernel_rfl) (by kernel_rfl) (by kernel_rfl)) ?_
                        have hll229 := hok176.len (by omega)
                        refine (mlen g7 n (filL n L a b) x175 _ (HS.hasP (i := 0) rfl) hok176 (by omega) (by omega)).mono ?_
                        rintro e W230 ⟨rfl, H_⟩
                        refine ⟨_, rfl, ?_⟩
                        replace HS : St W (owns []) W230 [many (mxE 100 77 21 113 110 g7 n (filL n L a b) x175)] := HS.join (F := []) (G := []) H_
                        clear H_
                        refine ql (.int .i64 ((filL n L a b).length : Int)) (by kernel_rfl) (by kernel_rfl) ?_
                        refine wpList_nil ?_
                        refine x_then ?_
                        refine wp_seq ?_
                        refine wp_region_lit ?_
                        refine ql (.pointer (some ⟨g7, 0, none⟩)) (by kernel_rfl) (by kernel_rfl) ?_
                        refine ql (.int .i64 a) (by kernel_rfl) (by kernel_rfl) ?_
                        refine ql (.int .i64 b) (by kernel_rfl) (by kernel_rfl) ?_
                        refine qc (f := 48) (args := #[.pointer (some ⟨g7, 0, none⟩), .int .i64 a, .int .i64 b]) (by kernel_rfl) (R_call #[.pointer (some ⟨g7, 0, none⟩), .int .i64 a, .int .i64 b] Try.func48 (by kernel_rfl) (by kernel_rfl) (by kernel_rfl)) ?_
                        have hfl234 : (filL n (filL n L a b) a b) = (filL n L a b) := filL_twice n a b L
                        refine (mfill g7 n (filL n L a b) x175 a b _ _ (St.focus (F := [many (mxE 100 77 21 113 110 g7 n (filL n L a b) x175)]) HS) hok176 (by omega) (by omega)).mono ?_
                        rintro e W235 ⟨x231, rfl, H_, hok232, hb233⟩
                        rw [hfl234] at H_ hok232 hb233
                        refine ⟨_, rfl, ?_⟩
                        replace HS : St W (owns []) W235 [many (mxE 100 77 21 113 110 g7 n (filL n L a b) x231)] := HS.join (F := [many (mxE 100 77 21 113 110 g7 n (filL n L a b) x175)]) (G := [many (mxE 100 77 21 113 110 g7 n (filL n L a b) x231)]) H_
                        clear H_
                        refine wpList_nil ?_
                        refine x_then ?_
                        refine wp_seq ?_
                        refine wp_region_lit ?_
                        refine ql (.pointer (some ⟨g7, 0, none⟩)) (by kernel_rfl) (by kernel_rfl) ?_
                        refine qc (f := 47) (args := #[.pointer (some ⟨g7, 0, none⟩)]) (by kernel_rfl) (R_call #[.pointer (some ⟨g7, 0, none⟩)] Try.func47 (by kernel_rfl) (by kernel_rfl) (by kernel_rfl)) ?_
                        have hll236 := hok232.len (by omega)
                        refine (mlen g7 n (filL n L a b) x231 _ (HS.hasP (i := 0) rfl) hok232 (by omega) (by omega)).mono ?_
                        rintro e W237 ⟨rfl, H_⟩
                        refine ⟨_, rfl, ?_⟩
                        replace HS : St W (owns []) W237 [many (mxE 100 77 21 113 110 g7 n (filL n L a b) x231)] := HS.join (F := []) (G := []) H_
                        clear H_
                        refine ql (.int .i64 ((filL n L a b).length : Int)) (by kernel_rfl) (by kernel_rfl) ?_
                        refine ql (.bool true) (by kernel_rfl) (R_beq (b := (((filL n L a b).length : Int) == ((filL n L a b).length : Int))) (by kernel_rfl) (beq_t (by omega))) ?_
                        refine ql (.bool true) (by kernel_rfl) (by kernel_rfl) ?_
                        refine qc (f := 43) (args := #[]) (by kernel_rfl) (R_call #[] Try.func43 (by kernel_rfl) (by kernel_rfl) (by kernel_rfl)) ?_
                        refine (mawake _).mono ?_
                        rintro e W238 ⟨rfl, H_⟩
                        refine ⟨_, rfl, ?_⟩
                        replace HS : St W (owns []) W238 [many (mxE 100 77 21 113 110 g7 n (filL n L a b) x231)] := HS.join (F := []) (G := []) H_
                        clear H_
                        refine ql (.bool true) (by kernel_rfl) (by kernel_rfl) ?_
                        refine ql (.bool true) (by kernel_rfl) (by kernel_rfl) ?_
                        refine wpList_nil ?_
                        refine x_then ?_
                        refine wp_ret ?_
                        refine ret_ (.bool true) (by kernel_rfl) ?_
                        replace HS := HS.drop1
                        exact ⟨rfl, HS⟩
                · skip
                  refine ql (.bool false) (by kernel_rfl) (R_nbool (p := i ≥ (0 : Int)) (by kernel_rfl) (hc181)) ?_
                  refine ql (.bool false) (by kernel_rfl) (by kernel_rfl) ?_
                  refine ql (.bool false) (by kernel_rfl) (by kernel_rfl) ?_
                  refine qln (by kernel_rfl) ?_
                  refine qln (by kernel_rfl) ?_
                  refine qln (by kernel_rfl) ?_
                  refine ql (.bool false) (by kernel_rfl) (by kernel_rfl) ?_
                  refine ql (.bool false) (by kernel_rfl) (by kernel_rfl) ?_
                  refine wpList_nil ?_
                  refine x_then ?_
                  refine wp_seq ?_
                  refine wp_seq ?_
                  refine wp_region_lit ?_
                  refine ql (.pointer (some ⟨g7, 0, none⟩)) (by kernel_rfl) (by kernel_rfl) ?_
                  refine ql (.int .i64 i) (by kernel_rfl) (by kernel_rfl) ?_
                  refine qc (f := 46) (args := #[.pointer (some ⟨g7, 0, none⟩), .int .i64 i]) (by kernel_rfl) (R_call #[.pointer (some ⟨g7, 0, none⟩), .int .i64 i] Try.func46 (by kernel_rfl) (by kernel_rfl) (by kernel_rfl)) ?_
                  have hfb := mem_filL (n := n) (x := i) (a := a) (b := b) (L := L)
                  have hfd : decide (i ∈ (filL n L a b)) = false := decide_eq_false (fun h_ => (hfb.1 h_).elim had (fun h_ => by omega))
                  refine (mhas g7 n (filL n L a b) x175 i _ (HS.hasP (i := 0) rfl) hok176 (by omega) (by omega)).mono ?_
                  rintro e W239 ⟨rfl, H_⟩
                  rw [hfd]
                  refine ⟨_, rfl, ?_⟩
                  replace HS : St W (owns []) W239 [many (mxE 100 77 21 113 110 g7 n (filL n L a b) x175)] := HS.join (F := []) (G := []) H_
                  clear H_
                  refine ql (.bool false) (by kernel_rfl) (by kernel_rfl) ?_
                  refine ql (.bool false) (by kernel_rfl) (by kernel_rfl) ?_
                  refine ql (.bool false) (by kernel_rfl) (by kernel_rfl) ?_
                  refine ql (.bool false) (by kernel_rfl) (by kernel_rfl) ?_
                  refine ql (.bool false) (by kernel_rfl) (by kernel_rfl) ?_
                  refine ql (.bool false) (by kernel_rfl) (by kernel_rfl) ?_
                  refine ql (.pointer (some ⟨g7, 0, none⟩)) (by kernel_rfl) (by kernel_rfl) ?_
                  refine qc (f := 47) (args := #[.pointer (some ⟨g7, 0, none⟩)]) (by kernel_rfl) (R_call #[.pointer (some ⟨g7, 0, none⟩)] Try.func47 (by kernel_rfl) (by kernel_rfl) (by kernel_rfl)) ?_
                  have hll240 := hok176.len (by omega)
                  refine (mlen g7 n (filL n L a b) x175 _ (HS.hasP (i := 0) rfl) hok176 (by omega) (by omega)).mono ?_
                  rintro e W241 ⟨rfl, H_⟩
                  refine ⟨_, rfl, ?_⟩
                  replace HS : St W (owns []) W241 [many (mxE 100 77 21 113 110 g7 n (filL n L a b) x175)] := HS.join (F := []) (G := []) H_
                  clear H_
                  refine ql (.int .i64 (L.length : Int)) (by kernel_rfl) (by kernel_rfl) ?_
                  by_cases hc242 : ((filL n L a b).length : Int) < (L.length : Int)
                  · skip
                    refine ql (.bool true) (by kernel_rfl) (R_bool (p := ((filL n L a b).length : Int) < (L.length : Int)) (by kernel_rfl) (hc242)) ?_
                    refine ql (.bool true) (by kernel_rfl) (by kernel_rfl) ?_
                    refine ql (.bool true) (by kernel_rfl) (by kernel_rfl) ?_
                    refine qln (by kernel_rfl) ?_
                    refine qln (by kernel_rfl) ?_
                    refine qln (by kernel_rfl) ?_
                    refine qln (by kernel_rfl) ?_
                    refine qln (by kernel_rfl) ?_
                    refine qln (by kernel_rfl) ?_
                    refine qln (by kernel_rfl) ?_
                    refine qln (by kernel_rfl) ?_
                    refine qln (by kernel_rfl) ?_
                    refine qln (by kernel_rfl) ?_
                    refine qln (by kernel_rfl) ?_
                    refine ql (.bool true) (by kernel_rfl) (by kernel_rfl) ?_
                    refine wpList_nil ?_
                    refine x_then ?_
                    refine wp_cond_true (by kernel_rfl) ?_
                    refine wp_seq ?_
                    refine wp_region_lit ?_
                    refine ql (.bool false) (by kernel_rfl) (by kernel_rfl) ?_
                    refine wpList_nil ?_
                    refine x_then ?_
                    refine wp_ret ?_
                    refine x_thenR ?_
                    refine ret_ (.bool false) (by kernel_rfl) ?_
                    exfalso; omega
                  · skip
                    refine ql (.bool false) (by kernel_rfl) (R_nbool (p := ((filL n L a b).length : Int) < (L.length : Int)) (by kernel_rfl) (hc242)) ?_
                    refine ql (.bool false) (by kernel_rfl) (by kernel_rfl) ?_
                    refine ql (.bool false) (by kernel_rfl) (by kernel_rfl) ?_
                    refine ql (.pointer (some ⟨g7, 0, none⟩)) (by kernel_rfl) (by kernel_rfl) ?_
                    refine qc (f := 49) (args := #[.pointer (some ⟨g7, 0, none⟩)]) (by kernel_rfl) (R_call #[.pointer (some ⟨g7, 0, none⟩)] Try.func49 (by kernel_rfl) (by kernel_rfl) (by kernel_rfl)) ?_
                    have hwl := wrd_le hok176
                    refine (mwords g7 n (filL n L a b) x175 _ (HS.hasP (i := 0) rfl) hok176 (by omega) (by omega)).mono ?_
                    rintro e W243 ⟨rfl, H_⟩
                    refine ⟨_, rfl, ?_⟩
                    replace HS : St W (owns []) W243 [many (mxE 100 77 21 113 110 g7 n (filL n L a b) x175)] := HS.join (F := []) (G := []) H_
                    clear H_
                    refine ql (.int .i64 n) (by kernel_rfl) (by kernel_rfl) ?_
                    refine ql (.int .i64 (n + 63)) (by kernel_rfl) (R_int (by kernel_rfl) (w64 (by omega))) ?_
                    refine ql (.int .i64 ((n + 63) / 64)) (by kernel_rfl) (R_quo (by kernel_rfl) (by kernel_rfl) (by omega) (by omega) (by decide)) ?_
                    by_cases hc244 : (wrd x175 n (filL n L a b)) > ((n + 63) / 64)
                    · skip
                      refine ql (.bool true) (by kernel_rfl) (R_bool (p := (wrd x175 n (filL n L a b)) > ((n + 63) / 64)) (by kernel_rfl) (hc244)) ?_
                      refine ql (.bool true) (by kernel_rfl) (by kernel_rfl) ?_
                      refine ql (.pointer (some ⟨g7, 0, none⟩)) (by kernel_rfl) (by kernel_rfl) ?_
                      refine qc (f := 49) (args := #[.pointer (some ⟨g7, 0, none⟩)]) (by kernel_rfl) (R_call #[.pointer (some ⟨g7, 0, none⟩)] Try.func49 (by kernel_rfl) (by kernel_rfl) (by kernel_rfl)) ?_
                      refine (mwords g7 n (filL n L a b) x175 _ (HS.hasP (i := 0) rfl) hok176 (by omega) (by omega)).mono ?_
                      rintro e W245 ⟨rfl, H_⟩
                      refine ⟨_, rfl, ?_⟩
                      replace HS : St W (owns []) W245 [many (mxE 100 77 21 113 110 g7 n (filL n L a b) x175)] := HS.join (F := []) (G := []) H_
                      clear H_
                      by_cases hc246 : (wrd x175 n (filL n L a b)) > (8 : Int)
                      · skip
                        refine ql (.bool true) (by kernel_rfl) (R_bool (p := (wrd x175 n (filL n L a b)) > (8 : Int)) (by kernel_rfl) (hc246)) ?_
                        refine ql (.bool true) (by kernel_rfl) (by kernel_rfl) ?_
                        refine ql (.bool true) (by kernel_rfl) (by kernel_rfl) ?_
                        refine wpList_nil ?_
                        refine x_then ?_
                        refine wp_cond_true (by kernel_rfl) ?_
                        refine wp_seq ?_
                        refine wp_region_lit ?_
                        refine ql (.bool false) (by kernel_rfl) (by kernel_rfl) ?_
                        refine wpList_nil ?_
                        refine x_then ?_
                        refine wp_ret ?_
                        refine x_thenR ?_
                        refine ret_ (.bool false) (by kernel_rfl) ?_
                        exfalso; omega
                      · skip
                        refine ql (.bool false) (by kernel_rfl) (R_nbool (p := (wrd x175 n (filL n L a b)) > (8 : Int)) (by kernel_rfl) (hc246)) ?_
                        refine ql (.bool false) (by kernel_rfl) (by kernel_rfl) ?_
                        refine ql (.bool false) (by kernel_rfl) (by kernel_rfl) ?_
                        refine wpList_nil ?_
                        refine x_then ?_
                        refine wp_cond_false (by kernel_rfl) ?_
                        refine wp_skip ?_
                        refine x_then ?_
                        refine wp_seq ?_
                        refine wp_region_lit ?_
                        refine ql (.pointer (some ⟨g7, 0, none⟩)) (by kernel_rfl) (by kernel_rfl) ?_
                        refine qc (f := 47) (args := #[.pointer (some ⟨g7, 0, none⟩)]) (by kernel_rfl) (R_call #[.pointer (some ⟨g7, 0, none⟩)] Try.func47 (by kernel_rfl) (by kernel_rfl) (by kernel_rfl)) ?_
                        have hll247 := hok176.len (by omega)
                        refine (mlen g7 n (filL n L a b) x175 _ (HS.hasP (i := 0) rfl) hok176 (by omega) (by omega)).mono ?_
                        rintro e W248 ⟨rfl, H_⟩
                        refine ⟨_, rfl, ?_⟩
                        replace HS : St W (owns []) W248 [many (mxE 100 77 21 113 110 g7 n (filL n L a b) x175)] := HS.join (F := []) (G := []) H_
                        clear H_
                        refine ql (.int .i64 ((filL n L a b).length : Int)) (by kernel_rfl) (by kernel_rfl) ?_
                        refine wpList_nil ?_
                        refine x_then ?_
                        refine wp_seq ?_
                        refine wp_region_lit ?_
                        refine ql (.pointer (some ⟨g7, 0, none⟩)) (by kernel_rfl) (by kernel_rfl) ?_
                        refine ql (.int .i64 a) (by kernel_rfl) (by kernel_rfl) ?_
                        refine ql (.int .i64 b) (by kernel_rfl) (by kernel_rfl) ?_
                        refine qc (f := 48) (args := #[.pointer (some ⟨g7, 0, none⟩), .int .i64 a, .int .i64 b]) (by kernel_rfl) (R_call #[.pointer (some ⟨g7, 0, none⟩), .int .i64 a, .int .i64 b] Try.func48 (by kernel_rfl) (by kernel_rfl) (by kernel_rfl)) ?_
                        have hfl252 : (filL n (filL n L a b) a b) = (filL n L a b) := filL_twice n a b L
                        refine (mfill g7 n (filL n L a b) x175 a b _ _ (St.focus (F := [many (mxE 100 77 21 113 110 g7 n (filL n L a b) x175)]) HS) hok176 (by omega) (by omega)).mono ?_
                        rintro e W253 ⟨x249, rfl, H_, hok250, hb251⟩
                        rw [hfl252] at H_ hok250 hb251
                        refine ⟨_, rfl, ?_⟩
                        replace HS : St W (owns []) W253 [many (mxE 100 77 21 113 110 g7 n (filL n L a b) x249)] := HS.join (F := [many (mxE 100 77 21 113 110 g7 n (filL n L a b) x175)]) (G := [many (mxE 100 77 21 113 110 g7 n (filL n L a b) x249)]) H_
                        clear H_
                        refine wpList_nil ?_
                        refine x_then ?_
                        refine wp_seq ?_
                        refine wp_region_lit ?_
                        refine ql (.pointer (some ⟨g7, 0, none⟩)) (by kernel_rfl) (by kernel_rfl) ?_
                        refine qc (f := 47) (args := #[.pointer (some ⟨g7, 0, none⟩)]) (by kernel_rfl) (R_call #[.pointer (some ⟨g7, 0, none⟩)] Try.func47 (by kernel_rfl) (by kernel_rfl) (by kernel_rfl)) ?_
                        have hll254 := hok250.len (by omega)
                        refine (mlen g7 n (filL n L a b) x249 _ (HS.hasP (i := 0) rfl) hok250 (by omega) (by omega)).mono ?_
                        rintro e W255 ⟨rfl, H_⟩
                        refine ⟨_, rfl, ?_⟩
                        replace HS : St W (owns []) W255 [many (mxE 100 77 21 113 110 g7 n (filL n L a b) x249)] := HS.join (F := []) (G := []) H_
                        clear H_
                        refine ql (.int .i64 ((filL n L a b).length : Int)) (by kernel_rfl) (by kernel_rfl) ?_
                        refine ql (.bool true) (by kernel_rfl) (R_beq (b := (((filL n L a b).length : Int) == ((filL n L a b).length : Int))) (by kernel_rfl) (beq_t (by omega))) ?_
                        refine ql (.bool true) (by kernel_rfl) (by kernel_rfl) ?_
                        refine qc (f := 43) (args := #[]) (by kernel_rfl) (R_call #[] Try.func43 (by kernel_rfl) (by kernel_rfl) (by kernel_rfl)) ?_
                        refine (mawake _).mono ?_
                        rintro e W256 ⟨rfl, H_⟩
                        refine ⟨_, rfl, ?_⟩
                        replace HS : St W (owns []) W256 [many (mxE 100 77 21 113 110 g7 n (filL n L a b) x249)] := HS.join (F := []) (G := []) H_
                        clear H_
                        refine ql (.bool true) (by kernel_rfl) (by kernel_rfl) ?_
                        refine ql (.bool true) (by kernel_rfl) (by kernel_rfl) ?_
                        refine wpList_nil ?_
                        refine x_then ?_
                        refine wp_ret ?_
                        refine ret_ (.bool true) (by kernel_rfl) ?_
                        replace HS := HS.drop1
                        exact ⟨rfl, HS⟩
                    · skip
                      refine ql (.bool false) (by kernel_rfl) (R_nbool (p := (wrd x175 n (filL n L a b)) > ((n + 63) / 64)) (by kernel_rfl) (hc244)) ?_
                      refine ql (.bool false) (by kernel_rfl) (by kernel_rfl) ?_
                      refine qln (by kernel_rfl) ?_
                      refine qln (by kernel_rfl) ?_
                      refine qln (by kernel_rfl) ?_
                      refine ql (.bool false) (by kernel_rfl) (by kernel_rfl) ?_
                      refine ql (.bool false) (by kernel_rfl) (by kernel_rfl) ?_
                      refine wpList_nil ?_
                      refine x_then ?_
                      refine wp_cond_false (by kernel_rfl) ?_
                      refine wp_skip ?_
                      refine x_then ?_
                      refine wp_seq ?_
                      refine wp_region_lit ?_
                      refine ql (.pointer (some ⟨g7, 0, none⟩)) (by kernel_rfl) (by kernel_rfl) ?_
                      refine qc (f := 47) (args := #[.pointer (some ⟨g7, 0, none⟩)]) (by kernel_rfl) (R_call #[.pointer (some ⟨g7, 0, none⟩)] Try.func47 (by kernel_rfl) (by kernel_rfl) (by kernel_rfl)) ?_
                      have hll257 := hok176.len (by omega)
                      refine (mlen g7 n (filL n L a b) x175 _ (HS.hasP (i := 0) rfl) hok176 (by omega) (by omega)).mono ?_
                      rintro e W258 ⟨rfl, H_⟩
                      refine ⟨_, rfl, ?_⟩
                      replace HS : St W (owns []) W258 [many (mxE 100 77 21 113 110 g7 n (filL n L a b) x175)] := HS.join (F := []) (G := []) H_
                      clear H_
                      refine ql (.int .i64 ((filL n L a b).length : Int)) (by kernel_rfl) (by kernel_rfl) ?_
                      refine wpList_nil ?_
                      refine x_then ?_
                      refine wp_seq ?_
                      refine wp_region_lit ?_
                      refine ql (.pointer (some ⟨g7, 0, none⟩)) (by kernel_rfl) (by kernel_rfl) ?_
                      refine ql (.int .i64 a) (by kernel_rfl) (by kernel_rfl) ?_
                      refine ql (.int .i64 b) (by kernel_rfl) (by kernel_rfl) ?_
                      refine qc (f := 48) (args := #[.pointer (some ⟨g7, 0, none⟩), .int .i64 a, .int .i64 b]) (by kernel_rfl) (R_call #[.pointer (some ⟨g7, 0, none⟩), .int .i64 a, .int .i64 b] Try.func48 (by kernel_rfl) (by kernel_rfl) (by kernel_rfl)) ?_
                      have hfl262 : (filL n (filL n L a b) a b) = (filL n L a b) := filL_twice n a b L
                      refine (mfill g7 n (filL n L a b) x175 a b _ _ (St.focus (F := [many (mxE 100 77 21 113 110 g7 n (filL n L a b) x175)]) HS) hok176 (by omega) (by omega)).mono ?_
                      rintro e W263 ⟨x259, rfl, H_, hok260, hb261⟩
                      rw [hfl262] at H_ hok260 hb261
                      refine ⟨_, rfl, ?_⟩
                      replace HS : St W (owns []) W263 [many (mxE 100 77 21 113 110 g7 n (filL n L a b) x259)] := HS.join (F := [many (mxE 100 77 21 113 110 g7 n (filL n L a b) x175)]) (G := [many (mxE 100 77 21 113 110 g7 n (filL n L a b) x259)]) H_
                      clear H_
                      refine wpList_nil ?_
                      refine x_then ?_
                      refine wp_seq ?_
                      refine wp_region_lit ?_
                      refine ql (.pointer (some ⟨g7, 0, none⟩)) (by kernel_rfl) (by kernel_rfl) ?_
                      refine qc (f := 47) (args := #[.pointer (some ⟨g7, 0, none⟩)]) (by kernel_rfl) (R_call #[.pointer (some ⟨g7, 0, none⟩)] Try.func47 (by kernel_rfl) (by kernel_rfl) (by kernel_rfl)) ?_
                      have hll264 := hok260.len (by omega)
                      refine (mlen g7 n (filL n L a b) x259 _ (HS.hasP (i := 0) rfl) hok260 (by omega) (by omega)).mono ?_
                      rintro e W265 ⟨rfl, H_⟩
                      refine ⟨_, rfl, ?_⟩
                      replace HS : St W (owns []) W265 [many (mxE 100 77 21 113 110 g7 n (filL n L a b) x259)] := HS.join (F := []) (G := []) H_
                      clear H_
                      refine ql (.int .i64 ((filL n L a b).length : Int)) (by kernel_rfl) (by kernel_rfl) ?_
                      refine ql (.bool true) (by kernel_rfl) (R_beq (b := (((filL n L a b).length : Int) == ((filL n L a b).length : Int))) (by kernel_rfl) (beq_t (by omega))) ?_
                      refine ql (.bool true) (by kernel_rfl) (by kernel_rfl) ?_
                      refine qc (f := 43) (args := #[]) (by kernel_rfl) (R_call #[] Try.func43 (by kernel_rfl) (by kernel_rfl) (by kernel_rfl)) ?_
                      refine (mawake _).mono ?_
                      rintro e W266 ⟨rfl, H_⟩
                      refine ⟨_, rfl, ?_⟩
                      replace HS : St W (owns []) W266 [many (mxE 100 77 21 113 110 g7 n (filL n L a b) x259)] := HS.join (F := []) (G := []) H_
                      clear H_
                      refine ql (.bool true) (by kernel_rfl) (by kernel_rfl) ?_
                      refine ql (.bool true) (by kernel_rfl) (by kernel_rfl) ?_
                      refine wpList_nil ?_
                      refine x_then ?_
                      refine wp_ret ?_
                      refine ret_ (.bool true) (by kernel_rfl) ?_
                      replace HS := HS.drop1
                      exact ⟨rfl, HS⟩
              · skip
                refine ql (.bool false) (by kernel_rfl) (R_nbool (p := i < b) (by kernel_rfl) (hc180)) ?_
                refine ql (.bool false) (by kernel_rfl) (by kernel_rfl) ?_
                refine ql (.bool false) (by kernel_rfl) (by kernel_rfl) ?_
                refine qln (by kernel_rfl) ?_
                refine qln (by kernel_rfl) ?_
                refine ql (.bool false) (by kernel_rfl) (by kernel_rfl) ?_
                refine ql (.bool false) (by kernel_rfl) (by kernel_rfl) ?_
                refine qln (by kernel_rfl) ?_
                refine qln (by kernel_rfl) ?_
                refine qln (by kernel_rfl) ?_
                refine ql (.bool false) (by kernel_rfl) (by kernel_rfl) ?_
                refine ql (.bool false) (by kernel_rfl) (by kernel_rfl) ?_
                refine wpList_nil ?_
                refine x_then ?_
                refine wp_seq ?_
                refine wp_seq ?_
                refine wp_region_lit ?_
                refine ql (.pointer (some ⟨g7, 0, none⟩)) (by kernel_rfl) (by kernel_rfl) ?_
                refine ql (.int .i64 i) (by kernel_rfl) (by kernel_rfl) ?_
                refine qc (f := 46) (args := #[.pointer (some ⟨g7, 0, none⟩), .int .i64 i]) (by kernel_rfl) (R_call #[.pointer (some ⟨g7, 0, none⟩), .int .i64 i] Try.func46 (by kernel_rfl) (by kernel_rfl) (by kernel_rfl)) ?_
                have hfb := mem_filL (n := n) (x := i) (a := a) (b := b) (L := L)
                have hfd : decide (i ∈ (filL n L a b)) = false := decide_eq_false (fun h_ => (hfb.1 h_).elim had (fun h_ => by omega))
                refine (mhas g7 n (filL n L a b) x175 i _ (HS.hasP (i := 0) rfl) hok176 (by omega) (by omega)).mono ?_
                rintro e W267 ⟨rfl, H_⟩
                rw [hfd]
                refine ⟨_, rfl, ?_⟩
                replace HS : St W (owns []) W267 [many (mxE 100 77 21 113 110 g7 n (filL n L a b) x175)] := HS.join (F := []) (G := []) H_
                clear H_
                refine ql (.bool false) (by kernel_rfl) (by kernel_rfl) ?_
                refine ql (.bool false) (by kernel_rfl) (by kernel_rfl) ?_
                refine ql (.bool false) (by kernel_rfl) (by kernel_rfl) ?_
                refine ql (.bool false) (by kernel_rfl) (by kernel_rfl) ?_
                refine ql (.bool false) (by kernel_rfl) (by kernel_rfl) ?_
                refine ql (.bool false) (by kernel_rfl) (by kernel_rfl) ?_
                refine ql (.pointer (some ⟨g7, 0, none⟩)) (by kernel_rfl) (by kernel_rfl) ?_
                refine qc (f := 47) (args := #[.pointer (some ⟨g7, 0, none⟩)]) (by kernel_rfl) (R_call #[.pointer (some ⟨g7, 0, none⟩)] Try.func47 (by kernel_rfl) (by kernel_rfl) (by kernel_rfl)) ?_
                have hll268 := hok176.len (by omega)
                refine (mlen g7 n (filL n L a b) x175 _ (HS.hasP (i := 0) rfl) hok176 (by omega) (by omega)).mono ?_
                rintro e W269 ⟨rfl, H_⟩
                refine ⟨_, rfl, ?_⟩
                replace HS : St W (owns []) W269 [many (mxE 100 77 21 113 110 g7 n (filL n L a b) x175)] := HS.join (F := []) (G := []) H_
                clear H_
                refine ql (.int .i64 (L.length : Int)) (by kernel_rfl) (by kernel_rfl) ?_
                by_cases hc270 : ((filL n L a b).length : Int) < (L.length : Int)
                · skip
                  refine ql (.bool true) (by kernel_rfl) (R_bool (p := ((filL n L a b).length : Int) < (L.length : Int)) (by kernel_rfl) (hc270)) ?_
                  refine ql (.bool true) (by kernel_rfl) (by kernel_rfl) ?_
                  refine ql (.bool true) (by kernel_rfl) (by kernel_rfl) ?_
                  refine qln (by kernel_rfl) ?_
                  refine qln (by kernel_rfl) ?_
                  refine qln (by kernel_rfl) ?_
                  refine qln (by kernel_rfl) ?_
                  refine qln (by kernel_rfl) ?_
                  refine qln (by kernel_rfl) ?_
                  refine qln (by kernel_rfl) ?_
                  refine qln (by kernel_rfl) ?_
                  refine qln (by kernel_rfl) ?_
                  refine qln (by kernel_rfl) ?_
                  refine qln (by kernel_rfl) ?_
                  refine ql (.bool true) (by kernel_rfl) (by kernel_rfl) ?_
                  refine wpList_nil ?_
                  refine x_then ?_
                  refine wp_cond_true (by kernel_rfl) ?_
                  refine wp_seq ?_
                  refine wp_region_lit ?_
                  refine ql (.bool false) (by kernel_rfl) (by kernel_rfl) ?_
                  refine wpList_nil ?_
                  refine x_then ?_
                  refine wp_ret ?_
                  refine x_thenR ?_
                  refine ret_ (.bool false) (by kernel_rfl) ?_
                  exfalso; omega
                · skip
                  refine ql (.bool false) (by kernel_rfl) (R_nbool (p := ((filL n L a b).length : Int) < (L.length : Int)) (by kernel_rfl) (hc270)) ?_
                  refine ql (.bool false) (by kernel_rfl) (by kernel_rfl) ?_
                  refine ql (.bool false) (by kernel_rfl) (by kernel_rfl) ?_
                  refine ql (.pointer (some ⟨g7, 0, none⟩)) (by kernel_rfl) (by kernel_rfl) ?_
                  refine qc (f := 49) (args := #[.pointer (some ⟨g7, 0, none⟩)]) (by kernel_rfl) (R_call #[.pointer (some ⟨g7, 0, none⟩)] Try.func49 (by kernel_rfl) (by kernel_rfl) (by kernel_rfl)) ?_
                  have hwl := wrd_le hok176
                  refine (mwords g7 n (filL n L a b) x175 _ (HS.hasP (i := 0) rfl) hok176 (by omega) (by omega)).mono ?_
                  rintro e W271 ⟨rfl, H_⟩
                  refine ⟨_, rfl, ?_⟩
                  replace HS : St W (owns []) W271 [many (mxE 100 77 21 113 110 g7 n (filL n L a b) x175)] := HS.join (F := []) (G := []) H_
                  clear H_
                  refine ql (.int .i64 n) (by kernel_rfl) (by kernel_rfl) ?_
                  refine ql (.int .i64 (n + 63)) (by kernel_rfl) (R_int (by kernel_rfl) (w64 (by omega))) ?_
                  refine ql (.int .i64 ((n + 63) / 64)) (by kernel_rfl) (R_quo (by kernel_rfl) (by kernel_rfl) (by omega) (by omega) (by decide)) ?_
                  by_cases hc272 : (wrd x175 n (filL n L a b)) > ((n + 63) / 64)
                  · skip
                    refine ql (.bool true) (by kernel_rfl) (R_bool (p := (wrd x175 n (filL n L a b)) > ((n + 63) / 64)) (by kernel_rfl) (hc272)) ?_
                    refine ql (.bool true) (by kernel_rfl) (by kernel_rfl) ?_
                    refine ql (.pointer (some ⟨g7, 0, none⟩)) (by kernel_rfl) (by kernel_rfl) ?_
                    refine qc (f := 49) (args := #[.pointer (some ⟨g7, 0, none⟩)]) (by kernel_rfl) (R_call #[.pointer (some ⟨g7, 0, none⟩)] Try.func49 (by kernel_rfl) (by kernel_rfl) (by kernel_rfl)) ?_
                    refine (mwords g7 n (filL n L a b) x175 _ (HS.hasP (i := 0) rfl) hok176 (by omega) (by omega)).mono ?_
                    rintro e W273 ⟨rfl, H_⟩
                    refine ⟨_, rfl, ?_⟩
                    replace HS : St W (owns []) W273 [many (mxE 100 77 21 113 110 g7 n (filL n L a b) x175)] := HS.join (F := []) (G := []) H_
                    clear H_
                    by_cases hc274 : (wrd x175 n (filL n L a b)) > (8 : Int)
                    · skip
                      refine ql (.bool true) (by kernel_rfl) (R_bool (p := (wrd x175 n (filL n L a b)) > (8 : Int)) (by kernel_rfl) (hc274)) ?_
                      refine ql (.bool true) (by kernel_rfl) (by kernel_rfl) ?_
                      refine ql (.bool true) (by kernel_rfl) (by kernel_rfl) ?_
                      refine wpList_nil ?_
                      refine x_then ?_
                      refine wp_cond_true (by kernel_rfl) ?_
                      refine wp_seq ?_
                      refine wp_region_lit ?_
                      refine ql (.bool false) (by kernel_rfl) (by kernel_rfl) ?_
                      refine wpList_nil ?_
                      refine x_then ?_
                      refine wp_ret ?_
                      refine x_thenR ?_
                      refine ret_ (.bool false) (by kernel_rfl) ?_
                      exfalso; omega
                    · skip
                      refine ql (.bool false) (by kernel_rfl) (R_nbool (p := (wrd x175 n (filL n L a b)) > (8 : Int)) (by kernel_rfl) (hc274)) ?_
                      refine ql (.bool false) (by kernel_rfl) (by kernel_rfl) ?_
                      refine ql (.bool false) (by kernel_rfl) (by kernel_rfl) ?_
                      refine wpList_nil ?_
                      refine x_then ?_
                      refine wp_cond_false (by kernel_rfl) ?_
                      refine wp_skip ?_
                      refine x_then ?_
                      refine wp_seq ?_
                      refine wp_region_lit ?_
                      refine ql (.pointer (some ⟨g7, 0, none⟩)) (by kernel_rfl) (by kernel_rfl) ?_
                      refine qc (f := 47) (args := #[.pointer (some ⟨g7, 0, none⟩)]) (by kernel_rfl) (R_call #[.pointer (some ⟨g7, 0, none⟩)] Try.func47 (by kernel_rfl) (by kernel_rfl) (by kernel_rfl)) ?_
                      have hll275 := hok176.len (by omega)
                      refine (mlen g7 n (filL n L a b) x175 _ (HS.hasP (i := 0) rfl) hok176 (by omega) (by omega)).mono ?_
                      rintro e W276 ⟨rfl, H_⟩
                      refine ⟨_, rfl, ?_⟩
                      replace HS : St W (owns []) W276 [many (mxE 100 77 21 113 110 g7 n (filL n L a b) x175)] := HS.join (F := []) (G := []) H_
                      clear H_
                      refine ql (.int .i64 ((filL n L a b).length : Int)) (by kernel_rfl) (by kernel_rfl) ?_
                      refine wpList_nil ?_
                      refine x_then ?_
                      refine wp_seq ?_
                      refine wp_region_lit ?_
                      refine ql (.pointer (some ⟨g7, 0, none⟩)) (by kernel_rfl) (by kernel_rfl) ?_
                      refine ql (.int .i64 a) (by kernel_rfl) (by kernel_rfl) ?_
                      refine ql (.int .i64 b) (by kernel_rfl) (by kernel_rfl) ?_
                      refine qc (f := 48) (args := #[.pointer (some ⟨g7, 0, none⟩), .int .i64 a, .int .i64 b]) (by kernel_rfl) (R_call #[.pointer (some ⟨g7, 0, none⟩), .int .i64 a, .int .i64 b] Try.func48 (by kernel_rfl) (by kernel_rfl) (by kernel_rfl)) ?_
                      have hfl280 : (filL n (filL n L a b) a b) = (filL n L a b) := filL_twice n a b L
                      refine (mfill g7 n (filL n L a b) x175 a b _ _ (St.focus (F := [many (mxE 100 77 21 113 110 g7 n (filL n L a b) x175)]) HS) hok176 (by omega) (by omega)).mono ?_
                      rintro e W281 ⟨x277, rfl, H_, hok278, hb279⟩
                      rw [hfl280] at H_ hok278 hb279
                      refine ⟨_, rfl, ?_⟩
                      replace HS : St W (owns []) W281 [many (mxE 100 77 21 113 110 g7 n (filL n L a b) x277)] := HS.join (F := [many (mxE 100 77 21 113 110 g7 n (filL n L a b) x175)]) (G := [many (mxE 100 77 21 113 110 g7 n (filL n L a b) x277)]) H_
                      clear H_
                      refine wpList_nil ?_
                      refine x_then ?_
                      refine wp_seq ?_
                      refine wp_region_lit ?_
                      refine ql (.pointer (some ⟨g7, 0, none⟩)) (by kernel_rfl) (by kernel_rfl) ?_
                      refine qc (f := 47) (args := #[.pointer (some ⟨g7, 0, none⟩)]) (by kernel_rfl) (R_call #[.pointer (some ⟨g7, 0, none⟩)] Try.func47 (by kernel_rfl) (by kernel_rfl) (by kernel_rfl)) ?_
                      have hll282 := hok278.len (by omega)
                      refine (mlen g7 n (filL n L a b) x277 _ (HS.hasP (i := 0) rfl) hok278 (by omega) (by omega)).mono ?_
                      rintro e W283 ⟨rfl, H_⟩
                      refine ⟨_, rfl, ?_⟩
                      replace HS : St W (owns []) W283 [many (mxE 100 77 21 113 110 g7 n (filL n L a b) x277)] := HS.join (F := []) (G := []) H_
                      clear H_
                      refine ql (.int .i64 ((filL n L a b).length : Int)) (by kernel_rfl) (by kernel_rfl) ?_
                      refine ql (.bool true) (by kernel_rfl) (R_beq (b := (((filL n L a b).length : Int) == ((filL n L a b).length : Int))) (by kernel_rfl) (beq_t (by omega))) ?_
                      refine ql (.bool true) (by kernel_rfl) (by kernel_rfl) ?_
                      refine qc (f := 43) (args := #[]) (by kernel_rfl) (R_call #[] Try.func43 (by kernel_rfl) (by kernel_rfl) (by kernel_rfl)) ?_
                      refine (mawake _).mono ?_
                      rintro e W284 ⟨rfl, H_⟩
                      refine ⟨_, rfl, ?_⟩
                      replace HS : St W (owns []) W284 [many (mxE 100 77 21 113 110 g7 n (filL n L a b) x277)] := HS.join (F := []) (G := []) H_
                      clear H_
                      refine ql (.bool true) (by kernel_rfl) (by kernel_rfl) ?_
                      refine ql (.bool true) (by kernel_rfl) (by kernel_rfl) ?_
                      refine wpList_nil ?_
                      refine x_then ?_
                      refine wp_ret ?_
                      refine ret_ (.bool true) (by kernel_rfl) ?_
                      replace HS := HS.drop1
                      exact ⟨rfl, HS⟩
                  · skip
                    refine ql (.bool false) (by kernel_rfl) (R_nbool (p := (wrd x175 n (filL n L a b)) > ((n + 63) / 64)) (by kernel_rfl) (hc272)) ?_
                    refine ql (.bool false) (by kernel_rfl) (by kernel_rfl) ?_
                    refine qln (by kernel_rfl) ?_
                    refine qln (by kernel_rfl) ?_
                    refine qln (by kernel_rfl) ?_
                    refine ql (.bool false) (by kernel_rfl) (by kernel_rfl) ?_
                    refine ql (.bool false) (by kernel_rfl) (by kernel_rfl) ?_
                    refine wpList_nil ?_
                    refine x_then ?_
                    refine wp_cond_false (by kernel_rfl) ?_
                    refine wp_skip ?_
                    refine x_then ?_
                    refine wp_seq ?_
                    refine wp_region_lit ?_
                    refine ql (.pointer (some ⟨g7, 0, none⟩)) (by kernel_rfl) (by kernel_rfl) ?_
                    refine qc (f := 47) (args := #[.pointer (some ⟨g7, 0, none⟩)]) (by kernel_rfl) (R_call #[.pointer (some ⟨g7, 0, none⟩)] Try.func47 (by kernel_rfl) (by kernel_rfl) (by kernel_rfl)) ?_
                    have hll285 := hok176.len (by omega)
                    refine (mlen g7 n (filL n L a b) x175 _ (HS.hasP (i := 0) rfl) hok176 (by omega) (by omega)).mono ?_
                    rintro e W286 ⟨rfl, H_⟩
                    refine ⟨_, rfl, ?_⟩
                    replace HS : St W (owns []) W286 [many (mxE 100 77 21 113 110 g7 n (filL n L a b) x175)] := HS.join (F := []) (G := []) H_
                    clear H_
                    refine ql (.int .i64 ((filL n L a b).length : Int)) (by kernel_rfl) (by kernel_rfl) ?_
                    refine wpList_nil ?_
                    refine x_then ?_
                    refine wp_seq ?_
                    refine wp_region_lit ?_
                    refine ql (.pointer (some ⟨g7, 0, none⟩)) (by kernel_rfl) (by kernel_rfl) ?_
                    refine ql (.int .i64 a) (by kernel_rfl) (by kernel_rfl) ?_
                    refine ql (.int .i64 b) (by kernel_rfl) (by kernel_rfl) ?_
                    refine qc (f := 48) (args := #[.pointer (some ⟨g7, 0, none⟩), .int .i64 a, .int .i64 b]) (by kernel_rfl) (R_call #[.pointer (some ⟨g7, 0, none⟩), .int .i64 a, .int .i64 b] Try.func48 (by kernel_rfl) (by kernel_rfl) (by kernel_rfl)) ?_
                    have hfl290 : (filL n (filL n L a b) a b) = (filL n L a b) := filL_twice n a b L
                    refine (mfill g7 n (filL n L a b) x175 a b _ _ (St.focus (F := [many (mxE 100 77 21 113 110 g7 n (filL n L a b) x175)]) HS) hok176 (by omega) (by omega)).mono ?_
                    rintro e W291 ⟨x287, rfl, H_, hok288, hb289⟩
                    rw [hfl290] at H_ hok288 hb289
                    refine ⟨_, rfl, ?_⟩
                    replace HS : St W (owns []) W291 [many (mxE 100 77 21 113 110 g7 n (filL n L a b) x287)] := HS.join (F := [many (mxE 100 77 21 113 110 g7 n (filL n L a b) x175)]) (G := [many (mxE 100 77 21 113 110 g7 n (filL n L a b) x287)]) H_
                    clear H_
                    refine wpList_nil ?_
                    refine x_then ?_
                    refine wp_seq ?_
                    refine wp_region_lit ?_
                    refine ql (.pointer (some ⟨g7, 0, none⟩)) (by kernel_rfl) (by kernel_rfl) ?_
                    refine qc (f := 47) (args := #[.pointer (some ⟨g7, 0, none⟩)]) (by kernel_rfl) (R_call #[.pointer (some ⟨g7, 0, none⟩)] Try.func47 (by kernel_rfl) (by kernel_rfl) (by kernel_rfl)) ?_
                    have hll292 := hok288.len (by omega)
                    refine (mlen g7 n (filL n L a b) x287 _ (HS.hasP (i := 0) rfl) hok288 (by omega) (by omega)).mono ?_
                    rintro e W293 ⟨rfl, H_⟩
                    refine ⟨_, rfl, ?_⟩
                    replace HS : St W (owns []) W293 [many (mxE 100 77 21 113 110 g7 n (filL n L a b) x287)] := HS.join (F := []) (G := []) H_
                    clear H_
                    refine ql (.int .i64 ((filL n L a b).length : Int)) (by kernel_rfl) (by kernel_rfl) ?_
                    refine ql (.bool true) (by kernel_rfl) (R_beq (b := (((filL n L a b).length : Int) == ((filL n L a b).length : Int))) (by kernel_rfl) (beq_t (by omega))) ?_
                    refine ql (.bool true) (by kernel_rfl) (by kernel_rfl) ?_
                    refine qc (f := 43) (args := #[]) (by kernel_rfl) (R_call #[] Try.func43 (by kernel_rfl) (by kernel_rfl) (by kernel_rfl)) ?_
                    refine (mawake _).mono ?_
                    rintro e W294 ⟨rfl, H_⟩
                    refine ⟨_, rfl, ?_⟩
                    replace HS : St W (owns []) W294 [many (mxE 100 77 21 113 110 g7 n (filL n L a b) x287)] := HS.join (F := []) (G := []) H_
                    clear H_
                    refine ql (.bool true) (by kernel_rfl) (by kernel_rfl) ?_
                    refine ql (.bool true) (by kernel_rfl) (by kernel_rfl) ?_
                    refine wpList_nil ?_
                    refine x_then ?_
                    refine wp_ret ?_
                    refine ret_ (.bool true) (by kernel_rfl) ?_
                    replace HS := HS.drop1
                    exact ⟨rfl, HS⟩
            · skip
              refine ql (.bool false) (by kernel_rfl) (R_nbool (p := i ≥ a) (by kernel_rfl) (hc179)) ?_
              refine ql (.bool false) (by kernel_rfl) (by kernel_rfl) ?_
              refine qln (by kernel_rfl) ?_
              refine qln (by kernel_rfl) ?_
              refine qln (by kernel_rfl) ?_
              refine ql (.bool false) (by kernel_rfl) (by kernel_rfl) ?_
              refine ql (.bool false) (by kernel_rfl) (by kernel_rfl) ?_
              refine qln (by kernel_rfl) ?_
              refine qln (by kernel_rfl) ?_
              refine ql (.bool false) (by kernel_rfl) (by kernel_rfl) ?_
              refine ql (.bool false) (by kernel_rfl) (by kernel_rfl) ?_
              refine qln (by kernel_rfl) ?_
              refine qln (by kernel_rfl) ?_
              refine qln (by kernel_rfl) ?_
              refine ql (.bool false) (by kernel_rfl) (by kernel_rfl) ?_
              refine ql (.bool false) (by kernel_rfl) (by kernel_rfl) ?_
              refine wpList_nil ?_
              refine x_then ?_
              refine wp_seq ?_
              refine wp_seq ?_
              refine wp_region_lit ?_
              refine ql (.pointer (some ⟨g7, 0, none⟩)) (by kernel_rfl) (by kernel_rfl) ?_
              refine ql (.int .i64 i) (by kernel_rfl) (by kernel_rfl) ?_
              refine qc (f := 46) (args := #[.pointer (some ⟨g7, 0, none⟩), .int .i64 i]) (by kernel_rfl) (R_call #[.pointer (some ⟨g7, 0, none⟩), .int .i64 i] Try.func46 (by kernel_rfl) (by kernel_rfl) (by kernel_rfl)) ?_
              have hfb := mem_filL (n := n) (x := i) (a := a) (b := b) (L := L)
              have hfd : decide (i ∈ (filL n L a b)) = false := decide_eq_false (fun h_ => (hfb.1 h_).elim had (fun h_ => by omega))
              refine (mhas g7 n (filL n L a b) x175 i _ (HS.hasP (i := 0) rfl) hok176 (by omega) (by omega)).mono ?_
              rintro e W295 ⟨rfl, H_⟩
              rw [hfd]
              refine ⟨_, rfl, ?_⟩
              replace HS : St W (owns []) W295 [many (mxE 100 77 21 113 110 g7 n (filL n L a b) x175)] := HS.join (F := []) (G := []) H_
              clear H_
              refine ql (.bool false) (by kernel_rfl) (by kernel_rfl) ?_
              refine ql (.bool false) (by kernel_rfl) (by kernel_rfl) ?_
              refine ql (.bool false) (by kernel_rfl) (by kernel_rfl) ?_
              refine ql (.bool false) (by kernel_rfl) (by kernel_rfl) ?_
              refine ql (.bool false) (by kernel_rfl) (by kernel_rfl) ?_
              refine ql (.bool false) (by kernel_rfl) (by kernel_rfl) ?_
              refine ql (.pointer (some ⟨g7, 0, none⟩)) (by kernel_rfl) (by kernel_rfl) ?_
              refine qc (f := 47) (args := #[.pointer (some ⟨g7, 0, none⟩)]) (by kernel_rfl) (R_call #[.pointer (some ⟨g7, 0, none⟩)] Try.func47 (by kernel_rfl) (by kernel_rfl) (by kernel_rfl)) ?_
              have hll296 := hok176.len (by omega)
              refine (mlen g7 n (filL n L a b) x175 _ (HS.hasP (i := 0) rfl) hok176 (by omega) (by omega)).mono ?_
              rintro e W297 ⟨rfl, H_⟩
              refine ⟨_, rfl, ?_⟩
              replace HS : St W (owns []) W297 [many (mxE 100 77 21 113 110 g7 n (filL n L a b) x175)] := HS.join (F := []) (G := []) H_
              clear H_
              refine ql (.int .i64 (L.length : Int)) (by kernel_rfl) (by kernel_rfl) ?_
              by_cases hc298 : ((filL n L a b).length : Int) < (L.length : Int)
              · skip
                refine ql (.bool true) (by kernel_rfl) (R_bool (p := ((filL n L a b).length : Int) < (L.length : Int)) (by kernel_rfl) (hc298)) ?_
                refine ql (.bool true) (by kernel_rfl) (by kernel_rfl) ?_
                refine ql (.bool true) (by kernel_rfl) (by kernel_rfl) ?_
                refine qln (by kernel_rfl) ?_
                refine qln (by kernel_rfl) ?_
                refine qln (by kernel_rfl) ?_
                refine qln (by kernel_rfl) ?_
                refine qln (by kernel_rfl) ?_
                refine qln (by kernel_rfl) ?_
                refine qln (by kernel_rfl) ?_
                refine qln (by kernel_rfl) ?_
                refine qln (by kernel_rfl) ?_
                refine qln (by kernel_rfl) ?_
                refine qln (by kernel_rfl) ?_
                refine ql (.bool true) (by kernel_rfl) (by kernel_rfl) ?_
                refine wpList_nil ?_
                refine x_then ?_
                refine wp_cond_true (by kernel_rfl) ?_
                refine wp_seq ?_
                refine wp_region_lit ?_
                refine ql (.bool false) (by kernel_rfl) (by kernel_rfl) ?_
                refine wpList_nil ?_
                refine x_then ?_
                refine wp_ret ?_
                refine x_thenR ?_
                refine ret_ (.bool false) (by kernel_rfl) ?_
                exfalso; omega
              · skip
                refine ql (.bool false) (by kernel_rfl) (R_nbool (p := ((filL n L a b).length : Int) < (L.length : Int)) (by kernel_rfl) (hc298)) ?_
                refine ql (.bool false) (by kernel_rfl) (by kernel_rfl) ?_
                refine ql (.bool false) (by kernel_rfl) (by kernel_rfl) ?_
                refine ql (.pointer (some ⟨g7, 0, none⟩)) (by kernel_rfl) (by kernel_rfl) ?_
                refine qc (f := 49) (args := #[.pointer (some ⟨g7, 0, none⟩)]) (by kernel_rfl) (R_call #[.pointer (some ⟨g7, 0, none⟩)] Try.func49 (by kernel_rfl) (by kernel_rfl) (by kernel_rfl)) ?_
                have hwl := wrd_le hok176
                refine (mwords g7 n (filL n L a b) x175 _ (HS.hasP (i := 0) rfl) hok176 (by omega) (by omega)).mono ?_
                rintro e W299 ⟨rfl, H_⟩
                refine ⟨_, rfl, ?_⟩
                replace HS : St W (owns []) W299 [many (mxE 100 77 21 113 110 g7 n (filL n L a b) x175)] := HS.join (F := []) (G := []) H_
                clear H_
                refine ql (.int .i64 n) (by kernel_rfl) (by kernel_rfl) ?_
                refine ql (.int .i64 (n + 63)) (by kernel_rfl) (R_int (by kernel_rfl) (w64 (by omega))) ?_
                refine ql (.int .i64 ((n + 63) / 64)) (by kernel_rfl) (R_quo (by kernel_rfl) (by kernel_rfl) (by omega) (by omega) (by decide)) ?_
                by_cases hc300 : (wrd x175 n (filL n L a b)) > ((n + 63) / 64)
                · skip
                  refine ql (.bool true) (by kernel_rfl) (R_bool (p := (wrd x175 n (filL n L a b)) > ((n + 63) / 64)) (by kernel_rfl) (hc300)) ?_
                  refine ql (.bool true) (by kernel_rfl) (by kernel_rfl) ?_
                  refine ql (.pointer (some ⟨g7, 0, none⟩)) (by kernel_rfl) (by kernel_rfl) ?_
                  refine qc (f := 49) (args := #[.pointer (some ⟨g7, 0, none⟩)]) (by kernel_rfl) (R_call #[.pointer (some ⟨g7, 0, none⟩)] Try.func49 (by kernel_rfl) (by kernel_rfl) (by kernel_rfl)) ?_
                  refine (mwords g7 n (filL n L a b) x175 _ (HS.hasP (i := 0) rfl) hok176 (by omega) (by omega)).mono ?_
                  rintro e W301 ⟨rfl, H_⟩
                  refine ⟨_, rfl, ?_⟩
                  replace HS : St W (owns []) W301 [many (mxE 100 77 21 113 110 g7 n (filL n L a b) x175)] := HS.join (F := []) (G := []) H_
                  clear H_
                  by_cases hc302 : (wrd x175 n (filL n L a b)) > (8 : Int)
                  · skip
                    refine ql (.bool true) (by kernel_rfl) (R_bool (p := (wrd x175 n (filL n L a b)) > (8 : Int)) (by kernel_rfl) (hc302)) ?_
                    refine ql (.bool true) (by kernel_rfl) (by kernel_rfl) ?_
                    refine ql (.bool true) (by kernel_rfl) (by kernel_rfl) ?_
                    refine wpList_nil ?_
                    refine x_then ?_
                    refine wp_cond_true (by kernel_rfl) ?_
                    refine wp_seq ?_
                    refine wp_region_lit ?_
                    refine ql (.bool false) (by kernel_rfl) (by kernel_rfl) ?_
                    refine wpList_nil ?_
                    refine x_then ?_
                    refine wp_ret ?_
                    refine x_thenR ?_
                    refine ret_ (.bool false) (by kernel_rfl) ?_
                    exfalso; omega
                  · skip
                    refine ql (.bool false) (by kernel_rfl) (R_nbool (p := (wrd x175 n (filL n L a b)) > (8 : Int)) (by kernel_rfl) (hc302)) ?_
                    refine ql (.bool false) (by kernel_rfl) (by kernel_rfl) ?_
                    refine ql (.bool false) (by kernel_rfl) (by kernel_rfl) ?_
                    refine wpList_nil ?_
                    refine x_then ?_
                    refine wp_cond_false (by kernel_rfl) ?_
                    refine wp_skip ?_
                    refine x_then ?_
                    refine wp_seq ?_
                    refine wp_region_lit ?_
                    refine ql (.pointer (some ⟨g7, 0, none⟩)) (by kernel_rfl) (by kernel_rfl) ?_
                    refine qc (f := 47) (args := #[.pointer (some ⟨g7, 0, none⟩)]) (by kernel_rfl) (R_call #[.pointer (some ⟨g7, 0, none⟩)] Try.func47 (by kernel_rfl) (by kernel_rfl) (by kernel_rfl)) ?_
                    have hll303 := hok176.len (by omega)
                    refine (mlen g7 n (filL n L a b) x175 _ (HS.hasP (i := 0) rfl) hok176 (by omega) (by omega)).mono ?_
                    rintro e W304 ⟨rfl, H_⟩
                    refine ⟨_, rfl, ?_⟩
                    replace HS : St W (owns []) W304 [many (mxE 100 77 21 113 110 g7 n (filL n L a b) x175)] := HS.join (F := []) (G := []) H_
                    clear H_
                    refine ql (.int .i64 ((filL n L a b).length : Int)) (by kernel_rfl) (by kernel_rfl) ?_
                    refine wpList_nil ?_
                    refine x_then ?_
                    refine wp_seq ?_
                    refine wp_region_lit ?_
                    refine ql (.pointer (some ⟨g7, 0, none⟩)) (by kernel_rfl) (by kernel_rfl) ?_
                    refine ql (.int .i64 a) (by kernel_rfl) (by kernel_rfl) ?_
                    refine ql (.int .i64 b) (by kernel_rfl) (by kernel_rfl) ?_
                    refine qc (f := 48) (args := #[.pointer (some ⟨g7, 0, none⟩), .int .i64 a, .int .i64 b]) (by kernel_rfl) (R_call #[.pointer (some ⟨g7, 0, none⟩), .int .i64 a, .int .i64 b] Try.func48 (by kernel_rfl) (by kernel_rfl) (by kernel_rfl)) ?_
                    have hfl308 : (filL n (filL n L a b) a b) = (filL n L a b) := filL_twice n a b L
                    refine (mfill g7 n (filL n L a b) x175 a b _ _ (St.focus (F := [many (mxE 100 77 21 113 110 g7 n (filL n L a b) x175)]) HS) hok176 (by omega) (by omega)).mono ?_
                    rintro e W309 ⟨x305, rfl, H_, hok306, hb307⟩
                    rw [hfl308] at H_ hok306 hb307
                    refine ⟨_, rfl, ?_⟩
                    replace HS : St W (owns []) W309 [many (mxE 100 77 21 113 110 g7 n (filL n L a b) x305)] := HS.join (F := [many (mxE 100 77 21 113 110 g7 n (filL n L a b) x175)]) (G := [many (mxE 100 77 21 113 110 g7 n (filL n L a b) x305)]) H_
                    clear H_
                    refine wpList_nil ?_
                    refine x_then ?_
                    refine wp_seq ?_
                    refine wp_region_lit ?_
                    refine ql (.pointer (some ⟨g7, 0, none⟩)) (by kernel_rfl) (by kernel_rfl) ?_
                    refine qc (f := 47) (args := #[.pointer (some ⟨g7, 0, none⟩)]) (by kernel_rfl) (R_call #[.pointer (some ⟨g7, 0, none⟩)] Try.func47 (by kernel_rfl) (by kernel_rfl) (by kernel_rfl)) ?_
                    have hll310 := hok306.len (by omega)
                    refine (mlen g7 n (filL n L a b) x305 _ (HS.hasP (i := 0) rfl) hok306 (by omega) (by omega)).mono ?_
                    rintro e W311 ⟨rfl, H_⟩
                    refine ⟨_, rfl, ?_⟩
                    replace HS : St W (owns []) W311 [many (mxE 100 77 21 113 110 g7 n (filL n L a b) x305)] := HS.join (F := []) (G := []) H_
                    clear H_
                    refine ql (.int .i64 ((filL n L a b).length : Int)) (by kernel_rfl) (by kernel_rfl) ?_
                    refine ql (.bool true) (by kernel_rfl) (R_beq (b := (((filL n L a b).length : Int) == ((filL n L a b).length : Int))) (by kernel_rfl) (beq_t (by omega))) ?_
                    refine ql (.bool true) (by kernel_rfl) (by kernel_rfl) ?_
                    refine qc (f := 43) (args := #[]) (by kernel_rfl) (R_call #[] Try.func43 (by kernel_rfl) (by kernel_rfl) (by kernel_rfl)) ?_
                    refine (mawake _).mono ?_
                    rintro e W312 ⟨rfl, H_⟩
                    refine ⟨_, rfl, ?_⟩
                    replace HS : St W (owns []) W312 [many (mxE 100 77 21 113 110 g7 n (filL n L a b) x305)] := HS.join (F := []) (G := []) H_
                    clear H_
                    refine ql (.bool true) (by kernel_rfl) (by kernel_rfl) ?_
                    refine ql (.bool true) (by kernel_rfl) (by kernel_rfl) ?_
                    refine wpList_nil ?_
                    refine x_then ?_
                    refine wp_ret ?_
                    refine ret_ (.bool true) (by kernel_rfl) ?_
                    replace HS := HS.drop1
                    exact ⟨rfl, HS⟩
                · skip
                  refine ql (.bool false) (by kernel_rfl) (R_nbool (p := (wrd x175 n (filL n L a b)) > ((n + 63) / 64)) (by kernel_rfl) (hc300)) ?_
                  refine ql (.bool false) (by kernel_rfl) (by kernel_rfl) ?_
                  refine qln (by kernel_rfl) ?_
                  refine qln (by kernel_rfl) ?_
                  refine qln (by kernel_rfl) ?_
                  refine ql (.bool false) (by kernel_rfl) (by kernel_rfl) ?_
                  refine ql (.bool false) (by kernel_rfl) (by kernel_rfl) ?_
                  refine wpList_nil ?_
                  refine x_then ?_
                  refine wp_cond_false (by kernel_rfl) ?_
                  refine wp_skip ?_
                  refine x_then ?_
                  refine wp_seq ?_
                  refine wp_region_lit ?_
                  refine ql (.pointer (some ⟨g7, 0, none⟩)) (by kernel_rfl) (by kernel_rfl) ?_
                  refine qc (f := 47) (args := #[.pointer (some ⟨g7, 0, none⟩)]) (by kernel_rfl) (R_call #[.pointer (some ⟨g7, 0, none⟩)] Try.func47 (by kernel_rfl) (by kernel_rfl) (by kernel_rfl)) ?_
                  have hll313 := hok176.len (by omega)
                  refine (mlen g7 n (filL n L a b) x175 _ (HS.hasP (i := 0) rfl) hok176 (by omega) (by omega)).mono ?_
                  rintro e W314 ⟨rfl, H_⟩
                  refine ⟨_, rfl, ?_⟩
                  replace HS : St W (owns []) W314 [many (mxE 100 77 21 113 110 g7 n (filL n L a b) x175)] := HS.join (F := []) (G := []) H_
                  clear H_
                  refine ql (.int .i64 ((filL n L a b).length : Int)) (by kernel_rfl) (by kernel_rfl) ?_
                  refine wpList_nil ?_
                  refine x_then ?_
                  refine wp_seq ?_
                  refine wp_region_lit ?_
                  refine ql (.pointer (some ⟨g7, 0, none⟩)) (by kernel_rfl) (by kernel_rfl) ?_
                  refine ql (.int .i64 a) (by kernel_rfl) (by kernel_rfl) ?_
                  refine ql (.int .i64 b) (by kernel_rfl) (by kernel_rfl) ?_
                  refine qc (f := 48) (args := #[.pointer (some ⟨g7, 0, none⟩), .int .i64 a, .int .i64 b]) (by kernel_rfl) (R_call #[.pointer (some ⟨g7, 0, none⟩), .int .i64 a, .int .i64 b] Try.func48 (by kernel_rfl) (by kernel_rfl) (by kernel_rfl)) ?_
                  have hfl318 : (filL n (filL n L a b) a b) = (filL n L a b) := filL_twice n a b L
                  refine (mfill g7 n (filL n L a b) x175 a b _ _ (St.focus (F := [many (mxE 100 77 21 113 110 g7 n (filL n L a b) x175)]) HS) hok176 (by omega) (by omega)).mono ?_
                  rintro e W319 ⟨x315, rfl, H_, hok316, hb317⟩
                  rw [hfl318] at H_ hok316 hb317
                  refine ⟨_, rfl, ?_⟩
                  replace HS : St W (owns []) W319 [many (mxE 100 77 21 113 110 g7 n (filL n L a b) x315)] := HS.join (F := [many (mxE 100 77 21 113 110 g7 n (filL n L a b) x175)]) (G := [many (mxE 100 77 21 113 110 g7 n (filL n L a b) x315)]) H_
                  clear H_
                  refine wpList_nil ?_
                  refine x_then ?_
                  refine wp_seq ?_
                  refine wp_region_lit ?_
                  refine ql (.pointer (some ⟨g7, 0, none⟩)) (by kernel_rfl) (by kernel_rfl) ?_
                  refine qc (f := 47) (args := #[.pointer (some ⟨g7, 0, none⟩)]) (by kernel_rfl) (R_call #[.pointer (some ⟨g7, 0, none⟩)] Try.func47 (by kernel_rfl) (by kernel_rfl) (by kernel_rfl)) ?_
                  have hll320 := hok316.len (by omega)
                  refine (mlen g7 n (filL n L a b) x315 _ (HS.hasP (i := 0) rfl) hok316 (by omega) (by omega)).mono ?_
                  rintro e W321 ⟨rfl, H_⟩
                  refine ⟨_, rfl, ?_⟩
                  replace HS : St W (owns []) W321 [many (mxE 100 77 21 113 110 g7 n (filL n L a b) x315)] := HS.join (F := []) (G := []) H_
                  clear H_
                  refine ql (.int .i64 ((filL n L a b).length : Int)) (by kernel_rfl) (by kernel_rfl) ?_
                  refine ql (.bool true) (by kernel_rfl) (R_beq (b := (((filL n L a b).length : Int) == ((filL n L a b).length : Int))) (by kernel_rfl) (beq_t (by omega))) ?_
                  refine ql (.bool true) (by kernel_rfl) (by kernel_rfl) ?_
                  refine qc (f := 43) (args := #[]) (by kernel_rfl) (R_call #[] Try.func43 (by kernel_rfl) (by kernel_rfl) (by kernel_rfl)) ?_
                  refine (mawake _).mono ?_
                  rintro e W322 ⟨rfl, H_⟩
                  refine ⟨_, rfl, ?_⟩
                  replace HS : St W (owns []) W322 [many (mxE 100 77 21 113 110 g7 n (filL n L a b) x315)] := HS.join (F := []) (G := []) H_
                  clear H_
                  refine ql (.bool true) (by kernel_rfl) (by kernel_rfl) ?_
                  refine ql (.bool true) (by kernel_rfl) (by kernel_rfl) ?_
                  refine wpList_nil ?_
                  refine x_then ?_
                  refine wp_ret ?_
                  refine ret_ (.bool true) (by kernel_rfl) ?_
                  replace HS := HS.drop1
                  exact ⟨rfl, HS⟩


end Go.Proofs.Ytdiodmdohkjafaa.GMixedFills
