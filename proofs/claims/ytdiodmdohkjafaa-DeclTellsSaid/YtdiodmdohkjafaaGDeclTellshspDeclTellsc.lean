/- Written for this claim by gp.py, a program of this session's, over the kit's print. Lean checks it. -/
import Derived.Test.YtdiodmdohkjafaaGDeclTellsx0
import Derived.Test.YtdiodmdohkjafaaGDeclTellshx
import Derived.Test.YtdiodmdohkjafaaGDeclTellshspDeclTellsa
import Derived.Test.YtdiodmdohkjafaaGDeclTellshspDeclTellsb
import Derived.WalkKit
import Derived.StillTailTactics
import Derived.Deep.LoopGhost
import Derived.KernelRfl
import Derived.Deep.OwnRows
import Derived.Laws.OwnMore
import Derived.Laws.MakeOwn
import Derived.Maps.AppendAt
import Derived.OrdersHeld
import Derived.Lib.TrailingZeros
import Derived.Laws.Bits64b
import Derived.Laws.BitsLemmas
import Derived.Laws.Entries
import Derived.RangeFuncWrites
import Derived.RangeFuncLeaves
import Derived.RangeFuncCalls
import Derived.Shelf.Abstract
import Derived.Laws.CopyRow
import Derived.Lib.Overlaps
import Derived.Lib.AppendZerosOnto
import Derived.Lib.SliceRun
import Derived.Laws.IdiomCopy
import Derived.ArgAppend
import Derived.Conc.EntryLaws
import Derived.Maps.OwnSet
import Derived.Maps.Keyed
import Derived.Maps.Views
import Derived.Laws.StructEq
import Derived.ChangeKeysEq
namespace Go.Proofs.Ytdiodmdohkjafaa.GDeclTells
open Go.RowKit Go.Proofs.YtdiodmdohkjafaaW.PrintWords Go.Proofs.YtdiodmdohkjafaaW.PrintLast Go.Proofs.YtdiodmdohkjafaaW.PrintMore
attribute [local go_sem] max2_int min2_int max_two min_two max_three min_three max_four min_four   -- for this text's walks alone
set_option linter.unusedVariables false
set_option linter.unusedSimpArgs false

--import Derived.WalkKit
--import Derived.StillTailTactics
--import Derived.Deep.LoopGhost
--import Derived.KernelRfl
--import Derived.Deep.OwnRows
--import Derived.Laws.OwnMore
--import Derived.Laws.MakeOwn
--import Derived.Maps.AppendAt
--import Derived.OrdersHeld
--import Derived.Lib.TrailingZeros
--import Derived.Laws.Bits64b
--import Derived.Laws.BitsLemmas
--import Derived.Laws.Entries
--import Derived.RangeFuncWrites
--import Derived.RangeFuncLeaves
--import Derived.RangeFuncCalls
--import Derived.Shelf.Abstract
--import Derived.Laws.CopyRow
--import Derived.Lib.Overlaps
--import Derived.Lib.AppendZerosOnto
--import Derived.Lib.SliceRun
--import Derived.Laws.IdiomCopy
--import Derived.ArgAppend
--import Derived.Conc.EntryLaws
--import Derived.Maps.OwnSet
--import Derived.Maps.Keyed
--import Derived.Maps.Views
--import Derived.Laws.StructEq
--import Derived.ChangeKeysEq
attribute [local irreducible] wpStill wpList Code.wp TA
open Go.Shelf
set_option maxRecDepth 100000 in
set_option maxHeartbeats 1000000 in
theorem kclone_n (cl : Nat) (W : World) : Calls Try.prog 52 #[.slice none 0 cl] W fun e W' => ∃ A' c', e = .returned (.slice A' ([] : List (Int × Int)).length c') ∧ St W (owns []) W' [row A' ([] : List (Int × Int)).length c' (cf prC ([] : List (Int × Int))) 79 2] := by
  have HS : St W (owns []) W [] := St.start W _
  refine calls_enter [.slice none 0 cl, undef, undef, undef, undef, undef, undef, undef] Try.func52 rfl (by kernel_rfl) ?_
  refine wp_seq ?_
  refine wp_region_lit ?_
  refine ql (.slice none 0 0) (by kernel_rfl) (by kernel_rfl) ?_
  refine wpList_nil ?_
  refine x_then ?_
  refine wp_seq ?_
  refine wp_seq ?_
  refine wp_region_lit ?_
  refine ql (.slice none 0 cl) (by kernel_rfl) (by kernel_rfl) ?_
  refine ql (.bool true) (by kernel_rfl) (by kernel_rfl) ?_
  refine wpList_nil ?_
  refine x_then ?_
  refine wp_cond_true (by kernel_rfl) ?_
  refine wp_seq ?_
  refine wp_region_lit ?_
  refine ql (.slice none 0 0) (by kernel_rfl) (by kernel_rfl) ?_
  refine wpList_nil ?_
  refine x_then ?_
  refine wp_ret ?_
  refine x_thenR ?_
  refine ret_ (.slice none 0 0) (by kernel_rfl) ?_
  replace HS : St W (owns []) W [row none 0 0 (cf prC ([])) 79 2] := (HS.nilRow 79 2).cast_ (by kernel_rfl)
  exact ⟨none, 0, rfl, HS⟩

set_option maxRecDepth 100000 in
set_option maxHeartbeats 1000000 in
theorem kclone_s (ad : Addr) (cl : Nat) (l : List (Int × Int)) (W : World) (hra : Rd W (some ad) (cf prC l)) (hll : l.length ≤ 10000) : Calls Try.prog 52 #[.slice (some ad) l.length cl] W fun e W' => ∃ A' c', e = .returned (.slice A' l.length c') ∧ St W (owns []) W' [row A' l.length c' (cf prC l) 79 2] := by
  have HS : St W (owns []) W [] := St.start W _
  refine calls_enter [.slice (some ad) l.length cl, undef, undef, undef, undef, undef, undef, undef] Try.func52 rfl (by kernel_rfl) ?_
  refine wp_seq ?_
  refine wp_region_lit ?_
  refine ql (.slice none 0 0) (by kernel_rfl) (by kernel_rfl) ?_
  refine wpList_nil ?_
  refine x_then ?_
  refine wp_seq ?_
  refine wp_seq ?_
  refine wp_region_lit ?_
  refine ql (.slice (some ad) l.length cl) (by kernel_rfl) (by kernel_rfl) ?_
  refine ql (.bool false) (by kernel_rfl) (by kernel_rfl) ?_
  refine wpList_nil ?_
  refine x_then ?_
  refine wp_cond_false (by kernel_rfl) ?_
  refine wp_skip ?_
  refine x_then ?_
  refine wp_seq ?_
  refine wp_region_lit ?_
  refine kl HS 0 [] 79 2 (by kernel_rfl) (by kernel_rfl) rfl (by decide) ?_
  intro g1 W2 H_
  replace HS : St W (owns []) W2 [row (some ⟨g1, 0, none⟩) 0 0 (cf prC ([])) 79 2] := H_.cast_ (by kernel_rfl)
  clear H_
  refine ql (.slice (some ad) l.length cl) (by kernel_rfl) (by kernel_rfl) ?_
  obtain ⟨xs6, xs6_⟩ : ∃ z_ : List (Int × Int), z_ = ([]) ++ l := ⟨_, rfl⟩
  have xs6l : xs6.length = 0 + l.length := by rw [xs6_, List.length_append] <;> (try simp only [List.length_cons, List.length_nil]) <;> omega
  refine ka1 HS 0 rfl (Src.of_rd' (n := l.length) (c := cl) (z := 2) (hra.old0 HS) (by rw [cf_len (z := 2) (fun _ => rfl)]) (by decide) (cf_one (fun _ => rfl))) [.int .i64 0, .int .i64 0] 16 xs6.length (cf prC xs6) (by omega) (by rw [xs6_, cf_app]) (by kernel_rfl) (by kernel_rfl) (by kernel_rfl) Try.underlying34 (by kernel_rfl) (by kernel_rfl) (by kernel_rfl) (by kernel_rfl) (by decide) (by omega) (by omega) ?_
  intro A3 c4 W5 H_
  replace HS : St W (owns []) W5 [row A3 xs6.length c4 (cf prC xs6) 79 2] := H_
  clear H_
  refine ql (.slice A3 xs6.length c4) (by kernel_rfl) (by kernel_rfl) ?_
  refine wpList_nil ?_
  refine x_then ?_
  refine wp_ret ?_
  refine ret_ (.slice A3 xs6.length c4) (by kernel_rfl) ?_
  have hq : xs6 = l := by rw [xs6_]; simp
  rw [hq] at HS
  exact ⟨_, _, by rw [hq], HS⟩

theorem kclone (Al : Option Addr) (cl : Nat) (l : List (Int × Int)) (W : World) (hra : Rd W Al (cf prC l)) (hll : l.length ≤ 10000) : Calls Try.prog 52 #[.slice Al l.length cl] W fun e W' => ∃ A' c', e = .returned (.slice A' l.length c') ∧ St W (owns []) W' [row A' l.length c' (cf prC l) 79 2] := by
  cases Al with
  | none => obtain rfl := rd_none_nil hra; exact kclone_n cl W
  | some ad => exact kclone_s ad cl l W hra hll

set_option maxRecDepth 100000 in
set_option maxHeartbeats 1000000 in
theorem delf (gf : Nat) (lb : Array Value) (p : Int × Int → Bool) (A : Option Addr) (c : Nat) (l : List (Int × Int)) (W : World) (M : Nat → Prop) (HS : St W M W [row A l.length c (cf prC l) 79 2]) (hll : l.length ≤ 10000) (hen : Enters Try.prog gf) (hcl : ∀ (x : Int × Int) (w : World), Kpt (M) W w → Calls Try.prog gf (#[.agg #[.int .i64 x.1, .int .i64 x.2]] ++ lb) w fun e w' => e = .returned (.bool (p x)) ∧ St w (owns []) w' []) : Calls Try.prog 51 #[.slice A l.length c, .func (.func gf) #[] lb] W fun e W' => ∃ A' c', e = .returned (.slice A' (l.filter fun b => !p b).length c') ∧ St W M W' [row A' (l.filter fun b => !p b).length c' (cf prC (l.filter fun b => !p b)) 79 2] := by
  refine calls_enter [.slice A l.length c, .func (.func gf) #[] lb, undef, undef, undef, undef, undef, undef, undef, undef, undef, undef, undef, undef, undef, undef, undef, undef, undef, undef, undef, undef, undef, undef, undef, undef, undef, undef, undef, undef, undef, undef, undef, undef, undef, undef, undef, undef, undef, undef, undef, undef] Try.func51 rfl (by kernel_rfl) ?_
  refine wp_seq ?_
  refine wp_region_lit ?_
  refine ql (.slice none 0 0) (by kernel_rfl) (by kernel_rfl) ?_
  refine wpList_nil ?_
  refine x_then ?_
  refine wp_seq ?_
  refine wp_region_lit ?_
  refine ql (.slice A l.length c) (by kernel_rfl) (by kernel_rfl) ?_
  refine ql (.func (.func gf) #[] lb) (by kernel_rfl) (by kernel_rfl) ?_
  refine qc (f := 77) (args := #[.slice A l.length c, .func (.func gf) #[] lb]) (by kernel_rfl) (R_call #[.slice A l.length c, .func (.func gf) #[] lb] Try.func77 (by kernel_rfl) (by kernel_rfl) (by kernel_rfl)) ?_
  refine (idxf gf lb p A c l _ (Rd.row HS (i := 0) rfl) hll hen (fun x w hw => hcl x w (HS.kept.andNil hw))).mono ?_
  rintro e W1 ⟨k9, rfl, hk9, H_⟩
  refine ⟨_, rfl, ?_⟩
  replace HS : St W M W1 [row A l.length c (cf prC l) 79 2] := HS.join (F := []) (G := []) H_
  clear H_
  refine ql (.int .i64 k9) (by kernel_rfl) (by kernel_rfl) ?_
  refine wpList_nil ?_
  refine x_then ?_
  refine wp_seq ?_
  refine wp_seq ?_
  refine wp_region_lit ?_
  refine ql (.int .i64 k9) (by kernel_rfl) (by kernel_rfl) ?_
  by_cases hc2 : k9 = (-1 : Int)
  · skip
    refine ql (.bool true) (by kernel_rfl) (R_beq (b := (k9 == (-1 : Int))) (by kernel_rfl) (beq_t (hc2))) ?_
    refine wpList_nil ?_
    refine x_then ?_
    refine wp_cond_true (by kernel_rfl) ?_
    refine wp_seq ?_
    refine wp_region_lit ?_
    refine ql (.slice A l.length c) (by kernel_rfl) (by kernel_rfl) ?_
    refine ql (.slice A l.length c) (by kernel_rfl) (by kernel_rfl) ?_
    refine wpList_nil ?_
    refine x_then ?_
    refine wp_ret ?_
    refine x_thenR ?_
    refine ret_ (.slice A l.length c) (by kernel_rfl) ?_
    rcases hk9 with ⟨_, hk9⟩ | ⟨q0, q1, _, hk9⟩
    · have hq := (noP_all hk9 rfl).2; exact ⟨A, c, by rw [hq], by rw [hq]; exact HS⟩
    · exfalso; omega
  · skip
    refine ql (.bool false) (by kernel_rfl) (R_beq (b := (k9 == (-1 : Int))) (by kernel_rfl) (beq_f (hc2))) ?_
    refine wpList_nil ?_
    refine x_then ?_
    refine wp_cond_false (by kernel_rfl) ?_
    refine wp_skip ?_
    refine x_then ?_
    refine wp_seq ?_
    refine wp_seq ?_
    rcases hk9 with ⟨hk9, _⟩ | ⟨k90, k91, hk9, hk9p⟩
    · exfalso; omega
    obtain ⟨ga, rfl⟩ := St.rsome HS (i := 0) rfl (by omega)
    refine wp_region_lit ?_
    refine ql (.int .i64 k9) (by kernel_rfl) (by kernel_rfl) ?_
    refine ql (.int .i64 (k9 + 1)) (by kernel_rfl) (R_int (by kernel_rfl) (w64 (by omega))) ?_
    refine ql (.int .i64 (k9 + 1)) (by kernel_rfl) (by kernel_rfl) ?_
    refine wpList_nil ?_
    refine x_then ?_
    refine wp_block ?_
    refine wp_loop_ghost (fun kq a' w' => ∃ (J3 : Nat → Value) (i : Int) (j : Int) (C : List (Int × Int)) , a' = Fr [.slice (some ⟨ga, 0, none⟩) l.length c, .func (.func gf) #[] lb, undef, undef, .slice none 0 0, .int .i64 i, .int .i64 j, (J3 7), .slice (some ⟨ga, 0, none⟩) l.length c, .func (.func gf) #[] lb, .int .i64 k9, .int .i64 k9, .bool false, undef, .int .i64 k9, .int .i64 (k9 + 1), (J3 16), (J3 17), (J3 18), (J3 19), (J3 20), (J3 21), (J3 22), (J3 23), (J3 24), (J3 25), (J3 26), (J3 27), (J3 28), (J3 29), (J3 30), (J3 31), (J3 32), (J3 33), (J3 34), (J3 35), undef, undef, undef, undef, undef, undef] ∧ kq = (l.length - (j).toNat) ∧ (DfP p l C i j) ∧ (i < j) ∧ St W M w' [row (some ⟨ga, 0, none⟩) l.length c (cf prC C) 79 2]) (l.length - ((k9 + 1)).toNat) ⟨(fun k_ : Nat => List.getD [.slice (some ⟨ga, 0, none⟩) l.length c, .func (.func gf) #[] lb, undef, undef, .slice none 0 0, .int .i64 k9, .int .i64 (k9 + 1), undef, .slice (some ⟨ga, 0, none⟩) l.length c, .func (.func gf) #[] lb, .int .i64 k9, .int .i64 k9, .bool false, undef, .int .i64 k9, .int .i64 (k9 + 1), undef, undef, undef, undef, undef, undef, undef, undef, undef, undef, undef, undef, undef, undef, undef, undef, undef, undef, undef, undef, undef, undef, undef, undef, undef, undef] k_ undef), k9, (k9 + 1), l, congrArg Fr (by kernel_rfl), rfl, (dfP_start hk9 k90 k91 hk9p), by omega, HS⟩ ?_
    clear HS
    intro kq4 a' W5 hrel
    obtain ⟨J3, i, j, C, rfl, hk, hD, hij, HS⟩ := hrel
    obtain ⟨hD1, hD2, hD3, hD4, _, _⟩ := id hD
    refine wp_seq ?_
    refine wp_seq ?_
    refine wp_region_lit ?_
    refine ql (.int .i64 j) (by kernel_rfl) (by kernel_rfl) ?_
    refine ql (.slice (some ⟨ga, 0, none⟩) l.length c) (by kernel_rfl) (by kernel_rfl) ?_
    refine ql (.int .i64 (l.length : Int)) (by kernel_rfl) (by kernel_rfl) ?_
    by_cases hc6 : j < (l.length : Int)
    · skip
      refine ql (.bool true) (by kernel_rfl) (R_bool (p := j < (l.length : Int)) (by kernel_rfl) (hc6)) ?_
      refine wpList_nil ?_
      refine x_then ?_
      refine wp_cond_true (by kernel_rfl) ?_
      refine wp_skip ?_
      refine x_then ?_
      refine wp_seq ?_
      refine wp_block ?_
      refine wp_seq ?_
      have hgx := dfP_gx hD (by omega)
      refine wp_region_lit ?_
      refine ql (.slice (some ⟨ga, 0, none⟩) l.length c) (by kernel_rfl) (by kernel_rfl) ?_
      refine ql (.int .i64 j) (by kernel_rfl) (by kernel_rfl) ?_
      refine ql (.pointer (some ⟨ga, j.toNat * 2, none⟩)) (by kernel_rfl) (R_index (k := .i64) (g := ga) (n := l.length) (c := c) (i := j) (by kernel_rfl) (by kernel_rfl) Try.underlying34 (by kernel_rfl) (by omega) (by omega)) ?_
      refine ql (.agg #[.int .i64 ((gx C j).1), .int .i64 ((gx C j).2)]) (by kernel_rfl) (R_loadN (p := ⟨ga, j.toNat * 2, none⟩) [.int .i64 ((gx C j).1), .int .i64 ((gx C j).2)] (by kernel_rfl) (by kernel_rfl) (by kernel_rfl) (by kernel_rfl) (HS.elem (f := prC) (z := 2) (fun _ => rfl) (i := 0) rfl (gx_eq (by omega) (by omega)))) ?_
      refine kb HS [.int .i64 0, .int .i64 0] 79 (fun g => .pointer (some ⟨g, 0, none⟩)) (by kernel_rfl) (by kernel_rfl) ?_
      intro g7 W8 H_
      replace HS : St W M W8 [blk g7 [.int .i64 0, .int .i64 0] 79, row (some ⟨ga, 0, none⟩) l.length c (cf prC C) 79 2] := H_
      clear H_
      refine ks (v := .agg #[.int .i64 ((gx C j).1), .int .i64 ((gx C j).2)]) HS 0 rfl (0) [.int .i64 ((gx C j).1), .int .i64 ((gx C j).2)] (by kernel_rfl) (by kernel_rfl) (by kernel_rfl) (by kernel_rfl) (by kernel_rfl) (one_ (by kernel_rfl)) (Nat.le_of_ble_eq_true rfl) rfl ?_
      intro W9 H_
      replace HS : St W M W9 [blk g7 [.int .i64 ((gx C j).1), .int .i64 ((gx C j).2)] 79, row (some ⟨ga, 0, none⟩) l.length c (cf prC C) 79 2] := H_
      clear H_
      refine wpList_nil ?_
      refine x_then ?_
      refine wp_seq ?_
      refine wp_region_lit ?_
      refine ql (.func (.func gf) #[] lb) (by kernel_rfl) (by kernel_rfl) ?_
      refine ql (.agg #[.int .i64 ((gx C j).1), .int .i64 ((gx C j).2)]) (by kernel_rfl) (R_loadN (p := ⟨g7, 0, none⟩) [.int .i64 ((gx C j).1), .int .i64 ((gx C j).2)] (by kernel_rfl) (by kernel_rfl) (by kernel_rfl) (by kernel_rfl) (two_at (HS.cell (i := 0) (j := 0) rfl rfl) (HS.cell (i := 0) (j := 1) rfl rfl))) ?_
      refine qc (f := gf) (args := (#[.agg #[.int .i64 ((gx C j).1), .int .i64 ((gx C j).2)]] ++ lb)) (by kernel_rfl) (R_callvE (caps := lb) (#[.agg #[.int .i64 ((gx C j).1), .int .i64 ((gx C j).2)]] ++ lb) (by kernel_rfl) hen (by kernel_rfl)) ?_
      by_cases hv : p (gx C j) = true
      · skip
        have hpx : p (gx C j) = true := hv
        refine (hcl (gx C j) _ HS.kept).mono ?_
        rintro e W10 ⟨rfl, H_⟩
        rw [hpx]
        refine ⟨_, rfl, ?_⟩
        replace HS : St W M W10 [blk g7 [.int .i64 ((gx C j).1), .int .i64 ((gx C j).2)] 79, row (some ⟨ga, 0, none⟩) l.length c (cf prC C) 79 2] := HS.join (F := []) (G := []) H_
        clear H_
        refine ql (.bool false) (by kernel_rfl) (by kernel_rfl) ?_
        refine wpList_nil ?_
        refine x_then ?_
        refine wp_cond_false (by kernel_rfl) ?_
        refine wp_skip ?_
        refine x_inb ?_
        refine x_then ?_
        refine wp_region_lit ?_
        refine ql (.int .i64 j) (by kernel_rfl) (by kernel_rfl) ?_
        refine ql (.int .i64 (j + 1)) (by kernel_rfl) (R_int (by kernel_rfl) (w64 (by omega))) ?_
        refine ql (.int .i64 (j + 1)) (by kernel_rfl) (by kernel_rfl) ?_
        refine wpList_nil ?_
        replace HS := HS.drop1
        refine x_then ?_
        exact ⟨l.length - ((j + 1)).toNat, by omega, (fun k_ : Nat => List.getD [.slice (some ⟨ga, 0, none⟩) l.length c, .func (.func gf) #[] lb, undef, undef, .slice none 0 0, .int .i64 i, .int .i64 (j + 1), .pointer (some ⟨g7, 0, none⟩), .slice (some ⟨ga, 0, none⟩) l.length c, .func (.func gf) #[] lb, .int .i64 k9, .int .i64 k9, .bool false, undef, .int .i64 k9, .int .i64 (k9 + 1), .int .i64 j, .slice (some ⟨ga, 0, none⟩) l.length c, .int .i64 (l.length : Int), .bool true, .int .i64 j, .int .i64 (j + 1), .slice (some ⟨ga, 0, none⟩) l.length c, .int .i64 j, .pointer (some ⟨ga, j.toNat * 2, none⟩), .agg #[.int .i64 ((gx C j).1), .int .i64 ((gx C j).2)], .func (.func gf) #[] lb, .agg #[.int .i64 ((gx C j).1), .int .i64 ((gx C j).2)], .bool true, .bool false, (J3 30), (J3 31), (J3 32), (J3 33), (J3 34), (J3 35), undef, undef, undef, undef, undef, undef] k_ undef), i, (j + 1), C, congrArg Fr (by kernel_rfl), rfl, (dfP_skip hD (by omega) (hgx ▸ hpx)), by omega, HS⟩
      · skip
        have hpx : p (gx C j) = false := Bool.eq_false_iff.2 hv
        refine (hcl (gx C j) _ HS.kept).mono ?_
        rintro e W11 ⟨rfl, H_⟩
        rw [hpx]
        refine ⟨_, rfl, ?_⟩
        replace HS : St W M W11 [blk g7 [.int .i64 ((gx C j).1), .int .i64 ((gx C j).2)] 79, row (some ⟨ga, 0, none⟩) l.length c (cf prC C) 79 2] := HS.join (F := []) (G := []) H_
        clear H_
        refine ql (.bool true) (by kernel_rfl) (by kernel_rfl) ?_
        refine wpList_nil ?_
        refine x_then ?_
        refine wp_cond_true (by kernel_rfl) ?_
        refine wp_seq ?_
        refine wp_region_lit ?_
        refine ql (.slice (some ⟨ga, 0, none⟩) l.length c) (by kernel_rfl) (by kernel_rfl) ?_
        refine ql (.int .i64 i) (by kernel_rfl) (by kernel_rfl) ?_
        refine ql (.agg #[.int .i64 ((gx C j).1), .int .i64 ((gx C j).2)]) (by kernel_rfl) (R_loadN (p := ⟨g7, 0, none⟩) [.int .i64 ((gx C j).1), .int .i64 ((gx C j).2)] (by kernel_rfl) (by kernel_rfl) (by kernel_rfl) (by kernel_rfl) (two_at (HS.cell (i := 0) (j := 0) rfl rfl) (HS.cell (i := 0) (j := 1) rfl rfl))) ?_
        refine ql (.pointer (some ⟨ga, i.toNat * 2, none⟩)) (by kernel_rfl) (R_index (k := .i64) (g := ga) (n := l.length) (c := c) (i := i) (by kernel_rfl) (by kernel_rfl) Try.underlying34 (by kernel_rfl) (by omega) (by omega)) ?_
        refine kr (v := .agg #[.int .i64 ((gx C j).1), .int .i64 ((gx C j).2)]) HS 1 rfl (i.toNat * 2) [.int .i64 ((gx C j).1), .int .i64 ((gx C j).2)] (by kernel_rfl) (by kernel_rfl) (by kernel_rfl) (by kernel_rfl) (by kernel_rfl) (one_ (by kernel_rfl)) (by rw [cf_len (z := 2) (fun _ => rfl)]; simp only [List.length_cons, List.length_nil]; omega) rfl ?_
        intro W12 H_
        obtain ⟨xs13, xs13_⟩ : ∃ z_ : List (Int × Int), z_ = (C).set i.toNat ((gx C j).1, (gx C j).2) := ⟨_, rfl⟩
        replace HS : St W M W12 [blk g7 [.int .i64 ((gx C j).1), .int .i64 ((gx C j).2)] 79, row (some ⟨ga, 0, none⟩) l.length c (cf prC xs13) 79 2] := H_.cast_ (by rw [xs13_, ← cf_set (z := 2) (fun _ => rfl) (by decide) _ _ _ (by omega)]; rfl)
        clear H_
        have xs13l : xs13.length = l.length := by rw [xs13_, List.length_set]; first | done | omega
        refine wpList_nil ?_
        refine x_then ?_
        refine wp_region_lit ?_
        refine ql (.int .i64 i) (by kernel_rfl) (by kernel_rfl) ?_
        refine ql (.int .i64 (i + 1)) (by kernel_rfl) (R_int (by kernel_rfl) (w64 (by omega))) ?_
        refine ql (.int .i64 (i + 1)) (by kernel_rfl) (by kernel_rfl) ?_
        refine wpList_nil ?_
        refine x_inb ?_
        refine x_then ?_
        refine wp_region_lit ?_
        refine ql (.int .i64 j) (by kernel_rfl) (by kernel_rfl) ?_
        refine ql (.int .i64 (j + 1)) (by kernel_rfl) (R_int (by kernel_rfl) (w64 (by omega))) ?_
        refine ql (.int .i64 (j + 1)) (by kernel_rfl) (by kernel_rfl) ?_
        refine wpList_nil ?_
        replace HS := HS.drop1
        refine x_then ?_
        exact ⟨l.length - ((j + 1)).toNat, by omega, (fun k_ : Nat => List.getD [.slice (some ⟨ga, 0, none⟩) l.length c, .func (.func gf) #[] lb, undef, undef, .slice none 0 0, .int .i64 (i + 1), .int .i64 (j + 1), .pointer (some ⟨g7, 0, none⟩), .slice (some ⟨ga, 0, none⟩) l.length c, .func (.func gf) #[] lb, .int .i64 k9, .int .i64 k9, .bool false, undef, .int .i64 k9, .int .i64 (k9 + 1), .int .i64 j, .slice (some ⟨ga, 0, none⟩) l.length c, .int .i64 (l.length : Int), .bool true, .int .i64 j, .int .i64 (j + 1), .slice (some ⟨ga, 0, none⟩) l.length c, .int .i64 j, .pointer (some ⟨ga, j.toNat * 2, none⟩), .agg #[.int .i64 ((gx C j).1), .int .i64 ((gx C j).2)], .func (.func gf) #[] lb, .agg #[.int .i64 ((gx C j).1), .int .i64 ((gx C j).2)], .bool false, .bool true, .slice (some ⟨ga, 0, none⟩) l.length c, .int .i64 i, .agg #[.int .i64 ((gx C j).1), .int .i64 ((gx C j).2)], .pointer (some ⟨ga, i.toNat * 2, none⟩), .int .i64 i, .int .i64 (i + 1), undef, undef, undef, undef, undef, undef] k_ undef), (i + 1), (j + 1), xs13, congrArg Fr (by kernel_rfl), rfl, (by rw [xs13_, hgx]; exact dfP_put hD hij (by omega) (hgx ▸ hpx)), by omega, HS⟩
    · skip
      refine ql (.bool false) (by kernel_rfl) (R_nbool (p := j < (l.length : Int)) (by kernel_rfl) (hc6)) ?_
      refine wpList_nil ?_
      refine x_then ?_
      refine wp_cond_false (by kernel_rfl) ?_
      refine wp_exit ?_
      refine x_thenE ?_
      refine x_thenE ?_
      refine x_hit ?_
      refine x_then ?_
      refine wp_seq ?_
      obtain ⟨hD1, hD2, hD3, hD4, _, _⟩ := id hD
      have hjl : j = l.length := by omega
      obtain ⟨sp, hq1, hq2, hq3, hq4, HSo⟩ := HS.openRowZ (i := 0) rfl
      replace HS : St W M W5 [blk ga (cf prC C ++ sp) 79] := HSo
      clear HSo
      have hq5 : i < l.length := by have h1_ := List.length_filter_lt_length_iff_exists (l := l) (p := fun b => !p b); have h2_ := df_len hD hjl; have h3_ := h1_.2 ⟨gx l k9, List.mem_of_getElem? (gx_eq k90 k91), by simp [hk9p]⟩; omega
      refine wp_region_lit ?_
      refine ql (.slice (some ⟨ga, 0, none⟩) l.length c) (by kernel_rfl) (by kernel_rfl) ?_
      refine ql (.int .i64 i) (by kernel_rfl) (by kernel_rfl) ?_
      refine ql (.slice (some ⟨ga, i.toNat * 2, none⟩) (l.length - i.toNat) (c - i.toNat)) (by kernel_rfl) (R_eq (R_sliceL (A := (some ⟨ga, 0, none⟩)) (n := l.length) (c := c) (k := .i64) (i := i) (by kernel_rfl) (by kernel_rfl) Try.underlying34 (by kernel_rfl) (by omega) (by omega)) (by rw [cutA_at2 (by omega)])) ?_
      refine kclr2 (g := ga) (o := i.toNat * 2) (n := l.length - i.toNat) (c := c - i.toNat) (z := .agg #[.int .i64 0, .int .i64 0]) (y := .int .i64 0) HS 0 rfl (by kernel_rfl) (by kernel_rfl) Try.underlying34 (by kernel_rfl) rfl rfl (by omega) (by rw [hq4]; omega) ?_
      intro W14 H_
      replace HS : St W M W14 [blk ga (splice (cf prC C ++ sp) (i.toNat * 2) (List.replicate ((l.length - i.toNat) * 2) (.int .i64 0))) 79] := H_
      clear H_
      refine wpList_nil ?_
      refine x_then ?_
      refine wp_seq ?_
      refine wp_region_lit ?_
      refine ql (.slice (some ⟨ga, 0, none⟩) l.length c) (by kernel_rfl) (by kernel_rfl) ?_
      refine ql (.int .i64 i) (by kernel_rfl) (by kernel_rfl) ?_
      refine ql (.slice (some ⟨ga, 0, none⟩) i.toNat c) (by kernel_rfl) (R_sliceH (A := (some ⟨ga, 0, none⟩)) (n := l.length) (c := c) (z := 2) (e := 79) (k := .i64) (i := i) (by kernel_rfl) (by kernel_rfl) Try.underlying34 (by kernel_rfl) (by omega) (by omega)) ?_
      refine ql (.slice (some ⟨ga, 0, none⟩) i.toNat c) (by kernel_rfl) (by kernel_rfl) ?_
      refine wpList_nil ?_
      refine x_then ?_
      refine wp_ret ?_
      refine ret_ (.slice (some ⟨ga, 0, none⟩) i.toNat c) (by kernel_rfl) ?_
      have hfl := df_len hD hjl
      have HS2 := HS.closeRowZ (z := 2) (i := 0) rfl i.toNat c (cf prC (l.filter fun b => !p b)) (by rw [splice_length]; exact hq4) (df_take (by omega) (by rw [hq4]; omega) (dfP_end hD hjl)) (by omega) hq3
      rw [← hfl] at HS2
      exact ⟨_, c, by rw [hfl], HS2⟩

open Go.Shelf
set_option maxRecDepth 100000 in
set_option maxHeartbeats 1000000 in
theorem kcl53 (kv k : Nat) (n : Int) (x : Int × Int) (W : World) (hkb : W.cell? ⟨kv, 0, none⟩ = some (.pointer (some ⟨k, 0, none⟩))) (hk0 : W.cell? ⟨k, 0, none⟩ = some (.int .i64 n)) : Calls Try.prog 53 #[.agg #[.int .i64 x.1, .int .i64 x.2], .pointer (some ⟨kv, 0, none⟩)] W fun e W' => e = .returned (.bool (pOwn n x)) ∧ St W (owns []) W' [] := by
  have HS : St W (owns []) W [] := St.start W _
  refine calls_enter [.agg #[.int .i64 x.1, .int .i64 x.2], .pointer (some ⟨kv, 0, none⟩), undef, undef, undef, undef, undef, undef, undef, undef, undef, undef, undef, undef, undef, undef] Try.func53 rfl (by kernel_rfl) ?_
  refine wp_seq ?_
  refine wp_region_lit ?_
  refine kb HS [.int .i64 x.1, .int .i64 x.2] 79 (fun g => .pointer (some ⟨g, 0, none⟩)) (by kernel_rfl) (by kernel_rfl) ?_
  intro g1 W2 H_
  replace HS : St W (owns []) W2 [blk g1 [.int .i64 x.1, .int .i64 x.2] 79] := H_
  clear H_
  refine ql (.bool false) (by kernel_rfl) (by kernel_rfl) ?_
  refine wpList_nil ?_
  refine x_then ?_
  refine wp_seq ?_
  refine wp_region_lit ?_
  refine ql (.pointer (some ⟨k, 0, none⟩)) (by kernel_rfl) (R_load (p := ⟨kv, 0, none⟩) (by kernel_rfl) (by kernel_rfl) (by kernel_rfl) (HS.old0 hkb)) ?_
  refine ql (.pointer (some ⟨g1, 0, none⟩)) (by kernel_rfl) (by kernel_rfl) ?_
  refine ql (.int .i64 x.1) (by kernel_rfl) (R_load (p := ⟨g1, 0, none⟩) (by kernel_rfl) (by kernel_rfl) (by kernel_rfl) (HS.cell (i := 0) (j := 0) rfl rfl)) ?_
  refine qc (f := 54) (args := #[.pointer (some ⟨k, 0, none⟩), .int .i64 x.1]) (by kernel_rfl) (R_call #[.pointer (some ⟨k, 0, none⟩), .int .i64 x.1] Try.func54 (by kernel_rfl) (by kernel_rfl) (by kernel_rfl)) ?_
  by_cases his_x1 : 0 ≤ x.1 ∧ x.1 < n
  · skip
    refine (kis_t k n x.1 _ (HS.old0 hk0) his_x1).mono ?_
    rintro e W3 ⟨rfl, H_⟩
    refine ⟨_, rfl, ?_⟩
    replace HS : St W (owns []) W3 [blk g1 [.int .i64 x.1, .int .i64 x.2] 79] := HS.join (F := []) (G := []) H_
    clear H_
    refine ql (.bool false) (by kernel_rfl) (by kernel_rfl) ?_
    refine ql (.bool false) (by kernel_rfl) (by kernel_rfl) ?_
    refine ql (.pointer (some ⟨k, 0, none⟩)) (by kernel_rfl) (R_load (p := ⟨kv, 0, none⟩) (by kernel_rfl) (by kernel_rfl) (by kernel_rfl) (HS.old0 hkb)) ?_
    refine ql (.pointer (some ⟨g1, 1, none⟩)) (by kernel_rfl) (by kernel_rfl) ?_
    refine ql (.int .i64 x.2) (by kernel_rfl) (R_load (p := ⟨g1, 1, none⟩) (by kernel_rfl) (by kernel_rfl) (by kernel_rfl) (HS.cell (i := 0) (j := 1) rfl rfl)) ?_
    refine qc (f := 54) (args := #[.pointer (some ⟨k, 0, none⟩), .int .i64 x.2]) (by kernel_rfl) (R_call #[.pointer (some ⟨k, 0, none⟩), .int .i64 x.2] Try.func54 (by kernel_rfl) (by kernel_rfl) (by kernel_rfl)) ?_
    by_cases his_x2 : 0 ≤ x.2 ∧ x.2 < n
    · skip
      refine (kis_t k n x.2 _ (HS.old0 hk0) his_x2).mono ?_
      rintro e W4 ⟨rfl, H_⟩
      refine ⟨_, rfl, ?_⟩
      replace HS : St W (owns []) W4 [blk g1 [.int .i64 x.1, .int .i64 x.2] 79] := HS.join (F := []) (G := []) H_
      clear H_
      refine ql (.bool false) (by kernel_rfl) (by kernel_rfl) ?_
      refine ql (.bool false) (by kernel_rfl) (by kernel_rfl) ?_
      refine ql (.bool false) (by kernel_rfl) (by kernel_rfl) ?_
      refine wpList_nil ?_
      refine x_then ?_
      refine wp_ret ?_
      refine ret_ (.bool false) (by kernel_rfl) ?_
      replace HS := HS.drop1
      exact ⟨by unfold pOwn; rw [decide_eq_true his_x1, decide_eq_true his_x2]; rfl, HS⟩
    · skip
      refine (kis_f k n x.2 _ (HS.old0 hk0) his_x2).mono ?_
      rintro e W5 ⟨rfl, H_⟩
      refine ⟨_, rfl, ?_⟩
      replace HS : St W (owns []) W5 [blk g1 [.int .i64 x.1, .int .i64 x.2] 79] := HS.join (F := []) (G := []) H_
      clear H_
      refine ql (.bool true) (by kernel_rfl) (by kernel_rfl) ?_
      refine ql (.bool true) (by kernel_rfl) (by kernel_rfl) ?_
      refine ql (.bool true) (by kernel_rfl) (by kernel_rfl) ?_
      refine wpList_nil ?_
      refine x_then ?_
      refine wp_ret ?_
      refine ret_ (.bool true) (by kernel_rfl) ?_
      replace HS := HS.drop1
      exact ⟨by unfold pOwn; rw [decide_eq_true his_x1, decide_eq_false his_x2]; rfl, HS⟩
  · skip
    refine (kis_f k n x.1 _ (HS.old0 hk0) his_x1).mono ?_
    rintro e W6 ⟨rfl, H_⟩
    refine ⟨_, rfl, ?_⟩
    replace HS : St W (owns []) W6 [blk g1 [.int .i64 x.1, .int .i64 x.2] 79] := HS.join (F := []) (G := []) H_
    clear H_
    refine ql (.bool true) (by kernel_rfl) (by kernel_rfl) ?_
    refine ql (.bool true) (by kernel_rfl) (by kernel_rfl) ?_
    refine qln (by kernel_rfl) ?_
    refine qln (by kernel_rfl) ?_
    refine qln (by kernel_rfl) ?_
    refine qln (by kernel_rfl) ?_
    refine qln (by kernel_rfl) ?_
    refine ql (.bool true) (by kernel_rfl) (by kernel_rfl) ?_
    refine ql (.bool true) (by kernel_rfl) (by kernel_rfl) ?_
    refine wpList_nil ?_
    refine x_then ?_
    refine wp_ret ?_
    refine ret_ (.bool true) (by kernel_rfl) ?_
    replace HS := HS.drop1
    exact ⟨by unfold pOwn; rw [decide_eq_false his_x1]; rfl, HS⟩

set_option maxRecDepth 100000 in
set_option maxHeartbeats 1000000 in
theorem knm_o (k b : Nat) (us : List Int) (n u : Int) (W : World) (M : Nat → Prop) (HS : St W M W [blk k [.int .i64 n, .map (some b), .pointer none] 83, mpl Try.prog 3 3 b us]) (h0 : 0 ≤ u) (h1 : u ≤ 1000000) (hul : us.length ≤ 100000) (hu : u ∈ us) : Calls Try.prog 55 #[.pointer (some ⟨k, 0, none⟩), .int .i64 u] W fun e W' => e = .returned (.tuple #[]) ∧ St W M W' [blk k [.int .i64 n, .map (some b), .pointer none] 83, mpl Try.prog 3 3 b (nam us u)] := by
  have hin_u := hu
  refine calls_enter [.pointer (some ⟨k, 0, none⟩), .int .i64 u, undef, undef, undef, undef, undef, undef, undef, undef, undef, undef, undef, undef, undef, undef, undef, undef, undef, undef, undef, undef, undef, undef, undef, undef, undef] Try.func55 rfl (by kernel_rfl) ?_
  refine wp_seq ?_
  refine wp_region_lit ?_
  refine ql (.pointer (some ⟨k, 0, none⟩)) (by kernel_rfl) (by kernel_rfl) ?_
  refine ql (.pointer (some ⟨k, 0, none⟩)) (by kernel_rfl) (by kernel_rfl) ?_
  refine ql (.pointer (some ⟨k, 1, none⟩)) (by kernel_rfl) (by kernel_rfl) ?_
  refine ql (.map (some b)) (by kernel_rfl) (R_load (p := ⟨k, 1, none⟩) (by kernel_rfl) (by kernel_rfl) (by kernel_rfl) (HS.cell (i := 0) (j := 1) rfl rfl)) ?_
  refine ql (.int .i64 u) (by kernel_rfl) (by kernel_rfl) ?_
  refine ql (.tuple #[.int .i64 (plv us u), .bool true]) (by kernel_rfl) (R_eq (R_lookOk (b := b) (us := us) (i := u) (HS.get (i := 1) rfl) (Maps.int_keyed Try.underlying3) Try.underlying80 Try.underlying3 (by kernel_rfl) (by kernel_rfl) (by kernel_rfl) (Maps.keyOf_int_mk Try.underlying3 (WalkArith.wf_i64 (by omega)))) (by rw [decide_eq_true hin_u])) ?_
  refine ql (.tuple #[.int .i64 (plv us u), .bool true]) (by kernel_rfl) (by kernel_rfl) ?_
  refine ql (.int .i64 (plv us u)) (by kernel_rfl) (by kernel_rfl) ?_
  refine ql (.bool true) (by kernel_rfl) (by kernel_rfl) ?_
  refine ql (.int .i64 (plv us u)) (by kernel_rfl) (by kernel_rfl) ?_
  refine ql (.bool true) (by kernel_rfl) (by kernel_rfl) ?_
  refine wpList_nil ?_
  refine x_then ?_
  refine wp_seq ?_
  refine wp_region_lit ?_
  refine ql (.bool true) (by kernel_rfl) (by kernel_rfl) ?_
  refine ql (.bool false) (by kernel_rfl) (by kernel_rfl) ?_
  refine wpList_nil ?_
  refine x_then ?_
  refine wp_cond_false (by kernel_rfl) ?_
  refine wp_skip ?_
  refine end_ (.tuple #[]) (by kernel_rfl) ?_
  exact ⟨rfl, by unfold nam; rw [if_pos hu]; exact HS⟩

set_option maxRecDepth 100000 in
set_option maxHeartbeats 1000000 in
theorem knm_n (k b : Nat) (us : List Int) (n u : Int) (W : World) (M : Nat → Prop) (HS : St W M W [blk k [.int .i64 n, .map (some b), .pointer none] 83, mpl Try.prog 3 3 b us]) (h0 : 0 ≤ u) (h1 : u ≤ 1000000) (hul : us.length ≤ 100000) (hu : u ∉ us) : Calls Try.prog 55 #[.pointer (some ⟨k, 0, none⟩), .int .i64 u] W fun e W' => e = .returned (.tuple #[]) ∧ St W M W' [blk k [.int .i64 n, .map (some b), .pointer none] 83, mpl Try.prog 3 3 b (nam us u)] := by
  have hin_u := hu
  refine calls_enter [.pointer (some ⟨k, 0, none⟩), .int .i64 u, undef, undef, undef, undef, undef, undef, undef, undef, undef, undef, undef, undef, undef, undef, undef, undef, undef, undef, undef, undef, undef, undef, undef, undef, undef] Try.func55 rfl (by kernel_rfl) ?_
  refine wp_seq ?_
  refine wp_region_lit ?_
  refine ql (.pointer (some ⟨k, 0, none⟩)) (by kernel_rfl) (by kernel_rfl) ?_
  refine ql (.pointer (some ⟨k, 0, none⟩)) (by kernel_rfl) (by kernel_rfl) ?_
  refine ql (.pointer (some ⟨k, 1, none⟩)) (by kernel_rfl) (by kernel_rfl) ?_
  refine ql (.map (some b)) (by kernel_rfl) (R_load (p := ⟨k, 1, none⟩) (by kernel_rfl) (by kernel_rfl) (by kernel_rfl) (HS.cell (i := 0) (j := 1) rfl rfl)) ?_
  refine ql (.int .i64 u) (by kernel_rfl) (by kernel_rfl) ?_
  refine ql (.tuple #[.int .i64 (plv us u), .bool false]) (by kernel_rfl) (R_eq (R_lookOk (b := b) (us := us) (i := u) (HS.get (i := 1) rfl) (Maps.int_keyed Try.underlying3) Try.underlying80 Try.underlying3 (by kernel_rfl) (by kernel_rfl) (by kernel_rfl) (Maps.keyOf_int_mk Try.underlying3 (WalkArith.wf_i64 (by omega)))) (by rw [decide_eq_false hin_u])) ?_
  refine ql (.tuple #[.int .i64 (plv us u), .bool false]) (by kernel_rfl) (by kernel_rfl) ?_
  refine ql (.int .i64 (plv us u)) (by kernel_rfl) (by kernel_rfl) ?_
  refine ql (.bool false) (by kernel_rfl) (by kernel_rfl) ?_
  refine ql (.int .i64 (plv us u)) (by kernel_rfl) (by kernel_rfl) ?_
  refine ql (.bool false) (by kernel_rfl) (by kernel_rfl) ?_
  refine wpList_nil ?_
  refine x_then ?_
  refine wp_seq ?_
  refine wp_region_lit ?_
  refine ql (.bool false) (by kernel_rfl) (by kernel_rfl) ?_
  refine ql (.bool true) (by kernel_rfl) (by kernel_rfl) ?_
  refine wpList_nil ?_
  refine x_then ?_
  refine wp_cond_true (by kernel_rfl) ?_
  refine rg_still HS 10 (by kernel_rfl) (by kernel_rfl) ?_
  intro W1 H_ HK_
  simp only [List.take_succ_cons, List.take_zero, List.drop_succ_cons, List.drop_zero]
  replace HS : St W M W1 [blk k [.int .i64 n, .map (some b), .pointer none] 83, mpl Try.prog 3 3 b us] := H_
  clear H_
  clear HK_
  refine qs (.pointer (some ⟨k, 0, none⟩)) (by kernel_rfl) (by kernel_rfl) ?_
  refine qs (.pointer (some ⟨k, 0, none⟩)) (by kernel_rfl) (by kernel_rfl) ?_
  refine qs (.pointer (some ⟨k, 1, none⟩)) (by kernel_rfl) (by kernel_rfl) ?_
  refine qs (.map (some b)) (by kernel_rfl) (R_load (p := ⟨k, 1, none⟩) (by kernel_rfl) (by kernel_rfl) (by kernel_rfl) (HS.cell (i := 0) (j := 1) rfl rfl)) ?_
  refine qs (.int .i64 u) (by kernel_rfl) (by kernel_rfl) ?_
  refine qs (.pointer (some ⟨k, 0, none⟩)) (by kernel_rfl) (by kernel_rfl) ?_
  refine qs (.pointer (some ⟨k, 0, none⟩)) (by kernel_rfl) (by kernel_rfl) ?_
  refine qs (.pointer (some ⟨k, 1, none⟩)) (by kernel_rfl) (by kernel_rfl) ?_
  refine qs (.map (some b)) (by kernel_rfl) (R_load (p := ⟨k, 1, none⟩) (by kernel_rfl) (by kernel_rfl) (by kernel_rfl) (HS.cell (i := 0) (j := 1) rfl rfl)) ?_
  refine qs (.int .i64 (us.length : Int)) (by kernel_rfl) (R_lenP (us := us) (HS.get (i := 1) rfl) Try.underlying80 (by kernel_rfl)) ?_
  refine wpStill_nil ?_
  refine kmuP (b := b) (us := us) (u := u) HS 1 rfl (Maps.int_keyed Try.underlying3) Try.underlying80 Try.underlying3 (by have hm63_ : maxLen = 9223372036854775807 := rfl; first | (simp only [List.length_nil, List.length_singleton]; omega) | omega) (by kernel_rfl) (by kernel_rfl) (by kernel_rfl) (by kernel_rfl) (WalkArith.wf_i64 (by first | decide | omega)) (Maps.keyOf_int_mk Try.underlying3 (WalkArith.wf_i64 (by first | decide | omega))) hu ?_
  intro W2 H_
  replace HS : St W M W2 [blk k [.int .i64 n, .map (some b), .pointer none] 83, mpl Try.prog 3 3 b (us ++ [u])] := H_
  clear H_
  refine wpList_nil ?_
  refine end_ (.tuple #[]) (by kernel_rfl) ?_
  exact ⟨rfl, by unfold nam; rw [if_neg hu]; exact HS⟩

theorem knm (k b : Nat) (us : List Int) (n u : Int) (W : World) (M : Nat → Prop) (HS : St W M W [blk k [.int .i64 n, .map (some b), .pointer none] 83, mpl Try.prog 3 3 b us]) (h0 : 0 ≤ u) (h1 : u ≤ 1000000) (hul : us.length ≤ 100000) : Calls Try.prog 55 #[.pointer (some ⟨k, 0, none⟩), .int .i64 u] W fun e W' => e = .returned (.tuple #[]) ∧ St W M W' [blk k [.int .i64 n, .map (some b), .pointer none] 83, mpl Try.prog 3 3 b (nam us u)] := by
  by_cases hu : u ∈ us
  · exact knm_o k b us n u W M HS h0 h1 hul hu
  · exact knm_n k b us n u W M HS h0 h1 hul hu

set_option maxRecDepth 100000 in
set_option maxHeartbeats 1000000 in
theorem kof (n : Int) (Al : Option Addr) (cl : Nat) (l : List (Int × Int)) (W : World) (hra : Rd W Al (cf prC l)) (hll : l.length ≤ 400) (h0 : 0 ≤ n) (hn : n ≤ 65536) : Calls Try.prog 19 #[.int .i64 n, .slice Al l.length cl] W fun e W' => ∃ k x, e = .returned (.pointer (some ⟨k, 0, none⟩)) ∧ St W (owns []) W' [many (knE Try.prog 83 3 3 105 98 113 110 k n x)] ∧ x.ok n l := by
  have HS : St W (owns []) W [] := St.start W _
  refine calls_enter ((.int .i64 n) :: (.slice Al l.length cl) :: undef :: undef :: undef :: undef :: undef :: undef :: undef :: undef :: undef :: undef :: undef :: undef :: undef :: undef :: undef :: undef :: undef :: undef :: undef :: undef :: undef :: undef :: undef :: undef :: undef :: undef :: undef :: undef :: undef :: undef :: undef :: undef :: undef :: undef :: undef :: undef :: undef :: undef :: undef :: undef :: undef :: undef :: undef :: undef :: undef :: undef :: undef :: undef :: undef :: undef :: undef :: undef :: undef :: undef :: undef :: undef :: undef :: undef :: undef :: undef :: undef :: undef :: undef :: undef :: undef :: undef :: undef :: undef :: undef :: undef :: undef :: undef :: undef :: undef :: undef :: undef :: undef :: undef :: undef :: undef :: undef :: undef :: undef :: undef :: undef :: undef :: undef :: undef :: undef :: undef :: []) Try.func19 rfl (by kernel_rfl) ?_
  refine wp_seq ?_
  refine wp_region_lit ?_
  refine ql (.pointer none) (by kernel_rfl) (by kernel_rfl) ?_
  refine wpList_nil ?_
  refine x_then ?_
  refine wp_seq ?_
  refine wp_seq ?_
  refine wp_region_lit ?_
  refine ql (.int .i64 n) (by kernel_rfl) (by kernel_rfl) ?_
  refine ql (.bool false) (by kernel_rfl) (R_nbool (p := n < (0 : Int)) (by kernel_rfl) (by omega)) ?_
  refine ql (.bool false) (by kernel_rfl) (by kernel_rfl) ?_
  refine ql (.int .i64 n) (by kernel_rfl) (by kernel_rfl) ?_
  refine ql (.bool false) (by kernel_rfl) (R_nbool (p := n > (65536 : Int)) (by kernel_rfl) (by omega)) ?_
  refine ql (.bool false) (by kernel_rfl) (by kernel_rfl) ?_
  refine wpList_nil ?_
  refine x_then ?_
  refine wp_cond_false (by kernel_rfl) ?_
  refine wp_skip ?_
  refine x_then ?_
  refine wp_seq ?_
  refine wp_region_lit ?_
  refine ql (.int .i64 n) (by kernel_rfl) (by kernel_rfl) ?_
  refine kmmP HS 3 3 (by kernel_rfl) ?_
  intro b1 W2 H_
  replace HS : St W (owns []) W2 [mpl Try.prog 3 3 b1 ([])] := H_
  clear H_
  refine kmiP (b := b1) (us := []) (u := 0) HS 0 rfl (Maps.int_keyed Try.underlying3) Try.underlying80 Try.underlying3 (by have hm63_ : maxLen = 9223372036854775807 := rfl; first | (simp only [List.length_nil, List.length_singleton]; omega) | omega) (by kernel_rfl) (by kernel_rfl) (by kernel_rfl) (by kernel_rfl) (WalkArith.wf_i64 (by first | decide | omega)) (Maps.keyOf_int_mk Try.underlying3 (WalkArith.wf_i64 (by first | decide | omega))) (by simp) ?_
  intro W3 H_
  replace HS : St W (owns []) W3 [mpl Try.prog 3 3 b1 ([0])] := H_
  clear H_
  refine ql (.map (some b1)) (by kernel_rfl) (by kernel_rfl) ?_
  refine ql (.agg #[.int .i64 n, .map (some b1), .pointer none]) (by kernel_rfl) (by kernel_rfl) ?_
  refine kb HS [.int .i64 n, .map (some b1), .pointer none] 83 (fun g => .pointer (some ⟨g, 0, none⟩)) (by kernel_rfl) (by kernel_rfl) ?_
  intro g4 W5 H_
  replace HS : St W (owns []) W5 [blk g4 [.int .i64 n, .map (some b1), .pointer none] 83, mpl Try.prog 3 3 b1 ([0])] := H_
  clear H_
  refine kb HS [.pointer none] 35 (fun g => .pointer (some ⟨g, 0, none⟩)) (by kernel_rfl) (by kernel_rfl) ?_
  intro g6 W7 H_
  replace HS : St W (owns []) W7 [blk g6 [.pointer none] 35, blk g4 [.int .i64 n, .map (some b1), .pointer none] 83, mpl Try.prog 3 3 b1 ([0])] := H_
  clear H_
  refine ks (v := .pointer (some ⟨g4, 0, none⟩)) HS 0 rfl (0) [.pointer (some ⟨g4, 0, none⟩)] (by kernel_rfl) (by kernel_rfl) (by kernel_rfl) (by kernel_rfl) (by kernel_rfl) (one_ (by kernel_rfl)) (Nat.le_of_ble_eq_true rfl) rfl ?_
  intro W8 H_
  replace HS : St W (owns []) W8 [blk g6 [.pointer (some ⟨g4, 0, none⟩)] 35, blk g4 [.int .i64 n, .map (some b1), .pointer none] 83, mpl Try.prog 3 3 b1 ([0])] := H_
  clear H_
  refine wpList_nil ?_
  refine x_then ?_
  refine wp_seq ?_
  refine wp_region_lit ?_
  refine ql (.slice Al l.length cl) (by kernel_rfl) (by kernel_rfl) ?_
  refine qc (f := 52) (args := #[.slice Al l.length cl]) (by kernel_rfl) (R_call #[.slice Al l.length cl] Try.func52 (by kernel_rfl) (by kernel_rfl) (by kernel_rfl)) ?_
  refine (kclone Al cl l _ (hra.old0 HS) (by omega)).mono ?_
  rintro e W11 ⟨A9, c10, rfl, H_⟩
  refine ⟨_, rfl, ?_⟩
  replace HS : St W (owns []) W11 [row A9 l.length c10 (cf prC l) 79 2, blk g6 [.pointer (some ⟨g4, 0, none⟩)] 35, blk g4 [.int .i64 n, .map (some b1), .pointer none] 83, mpl Try.prog 3 3 b1 ([0])] := HS.join (F := []) (G := [row A9 l.length c10 (cf prC l) 79 2]) H_
  clear H_
  refine ql (.func (.func 53) #[] #[.pointer (some ⟨g6, 0, none⟩)]) (by kernel_rfl) (by kernel_rfl) ?_
  refine qc (f := 51) (args := #[.slice A9 l.length c10, .func (.func 53) #[] #[.pointer (some ⟨g6, 0, none⟩)]]) (by kernel_rfl) (R_call #[.slice A9 l.length c10, .func (.func 53) #[] #[.pointer (some ⟨g6, 0, none⟩)]] Try.func51 (by kernel_rfl) (by kernel_rfl) (by kernel_rfl)) ?_
  have hkp : ∀ w, Kpt (owns [row A9 l.length c10 (cf prC l) 79 2]) W11 w → w.cell? ⟨g6, 0, none⟩ = some (.pointer (some ⟨g4, 0, none⟩)) ∧ w.cell? ⟨g4, 0, none⟩ = some (.int .i64 n) := fun w hw => ⟨cell_of_blkP (HS.keepP (F := [row A9 l.length c10 (cf prC l) 79 2]) hw (List.mem_of_getElem? (i := 0) rfl)) rfl, cell_of_blkP (HS.keepP (F := [row A9 l.length c10 (cf prC l) 79 2]) hw (List.mem_of_getElem? (i := 1) rfl)) rfl⟩
  refine (delf 53 #[.pointer (some ⟨g6, 0, none⟩)] (pOwn n) A9 c10 l _ _ (St.focus (F := [row A9 l.length c10 (cf prC l) 79 2]) HS) (by omega) (enters_of Try.func53 (by kernel_rfl) rfl) (fun x w hw => kcl53 g6 g4 n x w (hkp w hw).1 (hkp w hw).2)).mono ?_
  rintro e W14 ⟨A12, c13, rfl, H_⟩
  rw [ownB_eq] at H_ ⊢
  refine ⟨_, rfl, ?_⟩
  replace HS : St W (owns []) W14 [row A12 ((ownB n l).length) c13 (cf prC (ownB n l)) 79 2, blk g6 [.pointer (some ⟨g4, 0, none⟩)] 35, blk g4 [.int .i64 n, .map (some b1), .pointer none] 83, mpl Try.prog 3 3 b1 ([0])] := HS.join (F := [row A9 l.length c10 (cf prC l) 79 2]) (G := [row A12 ((ownB n l).length) c13 (cf prC (ownB n l)) 79 2]) H_
  clear H_
  refine ql (.slice A12 ((ownB n l).length) c13) (by kernel_rfl) (by kernel_rfl) ?_
  refine wpList_nil ?_
  refine x_then ?_
  refine wp_seq ?_
  refine wp_seq ?_
  refine wp_region_lit ?_
  refine ql (.slice A12 ((ownB n l).length) c13) (by kernel_rfl) (by kernel_rfl) ?_
  refine ql (.int .i64 ((ownB n l).length : Int)) (by kernel_rfl) (by kernel_rfl) ?_
  refine ql (.int .i64 0) (by kernel_rfl) (by kernel_rfl) ?_
  refine wpList_nil ?_
  refine x_then ?_
  refine wp_block ?_
  replace HS : St W (owns []) W14 [blk g6 [.pointer (some ⟨g4, 0, none⟩)] 35, blk g4 [.int .i64 n, .map (some b1), .pointer none] 83, mpl Try.prog 3 3 b1 ([0]), row A12 ((ownB n l).length) c13 (cf prC (ownB n l)) 79 2] := HS.perm (perm_ [1, 2, 3, 0] (by kernel_rfl) rfl)
  refine wp_loop_ghost (fun kq a' w' => ∃ (J15 : Nat → Value) (j : Int) (us : List Int) , a' = Fr ((.int .i64 n) :: (.slice Al l.length cl) :: undef :: undef :: (.pointer none) :: (.pointer (some ⟨g6, 0, none⟩)) :: (.slice A12 ((ownB n l).length) c13) :: undef :: ((J15 8)) :: undef :: undef :: (.int .i64 n) :: (.bool false) :: (.bool false) :: (.int .i64 n) :: (.bool false) :: (.bool false) :: undef :: undef :: (.int .i64 n) :: (.map (some b1)) :: (.map (some b1)) :: (.agg #[.int .i64 n, .map (some b1), .pointer none]) :: (.pointer (some ⟨g4, 0, none⟩)) :: (.slice Al l.length cl) :: (.slice A9 l.length c10) :: (.func (.func 53) #[] #[.pointer (some ⟨g6, 0, none⟩)]) :: (.slice A12 ((ownB n l).length) c13) :: (.slice A12 ((ownB n l).length) c13) :: (.int .i64 ((ownB n l).length : Int)) :: (.int .i64 j) :: ((J15 31)) :: ((J15 32)) :: ((J15 33)) :: ((J15 34)) :: ((J15 35)) :: ((J15 36)) :: ((J15 37)) :: ((J15 38)) :: ((J15 39)) :: ((J15 40)) :: ((J15 41)) :: ((J15 42)) :: undef :: undef :: undef :: undef :: undef :: undef :: undef :: undef :: undef :: undef :: undef :: undef :: undef :: undef :: undef :: undef :: undef :: undef :: undef :: undef :: undef :: undef :: undef :: undef :: undef :: undef :: undef :: undef :: undef :: undef :: undef :: undef :: undef :: undef :: undef :: undef :: undef :: undef :: undef :: undef :: undef :: undef :: undef :: undef :: undef :: undef :: undef :: undef :: undef :: []) ∧ kq = ((ownB n l).length - (j).toNat) ∧ (0 ≤ j) ∧ (j ≤ (ownB n l).length) ∧ (NmP us (ownB n l) j) ∧ St W (owns []) w' [blk g6 [.pointer (some ⟨g4, 0, none⟩)] 35, blk g4 [.int .i64 n, .map (some b1), .pointer none] 83, mpl Try.prog 3 3 b1 us, row A12 ((ownB n l).length) c13 (cf prC (ownB n l)) 79 2]) ((ownB n l).length - ((0 : Int)).toNat) ⟨(fun k_ : Nat => List.getD ((.int .i64 n) :: (.slice Al l.length cl) :: undef :: undef :: (.pointer none) :: (.pointer (some ⟨g6, 0, none⟩)) :: (.slice A12 ((ownB n l).length) c13) :: undef :: undef :: undef :: undef :: (.int .i64 n) :: (.bool false) :: (.bool false) :: (.int .i64 n) :: (.bool false) :: (.bool false) :: undef :: undef :: (.int .i64 n) :: (.map (some b1)) :: (.map (some b1)) :: (.agg #[.int .i64 n, .map (some b1), .pointer none]) :: (.pointer (some ⟨g4, 0, none⟩)) :: (.slice Al l.length cl) :: (.slice A9 l.length c10) :: (.func (.func 53) #[] #[.pointer (some ⟨g6, 0, none⟩)]) :: (.slice A12 ((ownB n l).length) c13) :: (.slice A12 ((ownB n l).length) c13) :: (.int .i64 ((ownB n l).length : Int)) :: (.int .i64 0) :: undef :: undef :: undef :: undef :: undef :: undef :: undef :: undef :: undef :: undef :: undef :: undef :: undef :: undef :: undef :: undef :: undef :: undef :: undef :: undef :: undef :: undef :: undef :: undef :: undef :: undef :: undef :: undef :: undef :: undef :: undef :: undef :: undef :: undef :: undef :: undef :: undef :: undef :: undef :: undef :: undef :: undef :: undef :: undef :: undef :: undef :: undef :: undef :: undef :: undef :: undef :: undef :: undef :: undef :: undef :: undef :: undef :: undef :: undef :: undef :: undef :: []) k_ undef), (0 : Int), [0], congrArg Fr (by kernel_rfl), rfl, by omega, by omega, nmP_start _, HS⟩ ?_
  clear HS
  intro kq16 a' W17 hrel
  obtain ⟨J15, j, us, rfl, hk, j0, j1, hN, HS⟩ := hrel
  have hnl := nmP_len hN
  have hol := ownB_len n l
  refine wp_seq ?_
  refine wp_region_lit ?_
  by_cases hc18 : j < ((ownB n l).length : Int)
  · skip
    refine ql (.bool true) (by kernel_rfl) (R_bool (p := j < ((ownB n l).length : Int)) (by kernel_rfl) (hc18)) ?_
    refine wpList_nil ?_
    refine x_then ?_
    refine wp_seq ?_
    refine wp_cond_true (by kernel_rfl) ?_
    refine wp_skip ?_
    refine x_then ?_
    refine wp_seq ?_
    refine wp_block ?_
    refine wp_seq ?_
    have hgo := own_gx (n := n) (l := l) j0 (by omega)
    refine wp_region_lit ?_
    obtain ⟨g19, rfl⟩ := St.rsome HS (i := 3) rfl (by omega)
    refine ql (.pointer (some ⟨g19, j.toNat * 2, none⟩)) (by kernel_rfl) (R_index (k := .i64) (g := g19) (n := ((ownB n l).length)) (c := c13) (i := j) (by kernel_rfl) (by kernel_rfl) Try.underlying34 (by kernel_rfl) (by omega) (by omega)) ?_
    refine ql (.agg #[.int .i64 ((gx (ownB n l) j).1), .int .i64 ((gx (ownB n l) j).2)]) (by kernel_rfl) (R_loadN (p := ⟨g19, j.toNat * 2, none⟩) [.int .i64 ((gx (ownB n l) j).1), .int .i64 ((gx (ownB n l) j).2)] (by kernel_rfl) (by kernel_rfl) (by kernel_rfl) (by kernel_rfl) (HS.elem (f := prC) (z := 2) (fun _ => rfl) (i := 3) rfl (gx_eq (by omega) (by omega)))) ?_
    refine kb HS [.int .i64 0, .int .i64 0] 79 (fun g => .pointer (some ⟨g, 0, none⟩)) (by kernel_rfl) (by kernel_rfl) ?_
    intro g20 W21 H_
    replace HS : St W (owns []) W21 [blk g20 [.int .i64 0, .int .i64 0] 79, blk g6 [.pointer (some ⟨g4, 0, none⟩)] 35, blk g4 [.int .i64 n, .map (some b1), .pointer none] 83, mpl Try.prog 3 3 b1 us, row (some ⟨g19, 0, none⟩) ((ownB n l).length) c13 (cf prC (ownB n l)) 79 2] := H_
    clear H_
    refine ks (v := .agg #[.int .i64 ((gx (ownB n l) j).1), .int .i64 ((gx (ownB n l) j).2)]) HS 0 rfl (0) [.int .i64 ((gx (ownB n l) j).1), .int .i64 ((gx (ownB n l) j).2)] (by kernel_rfl) (by kernel_rfl) (by kernel_rfl) (by kernel_rfl) (by kernel_rfl) (one_ (by kernel_rfl)) (Nat.le_of_ble_eq_true rfl) rfl ?_
    intro W22 H_
    replace HS : St W (owns []) W22 [blk g20 [.int .i64 ((gx (ownB n l) j).1), .int .i64 ((gx (ownB n l) j).2)] 79, blk g6 [.pointer (some ⟨g4, 0, none⟩)] 35, blk g4 [.int .i64 n, .map (some b1), .pointer none] 83, mpl Try.prog 3 3 b1 us, row (some ⟨g19, 0, none⟩) ((ownB n l).length) c13 (cf prC (ownB n l)) 79 2] := H_
    clear H_
    refine wpList_nil ?_
    refine x_then ?_
    refine wp_seq ?_
    refine wp_region_lit ?_
    refine ql (.pointer (some ⟨g4, 0, none⟩)) (by kernel_rfl) (R_load (p := ⟨g6, 0, none⟩) (by kernel_rfl) (by kernel_rfl) (by kernel_rfl) (HS.cell (i := 1) (j := 0) rfl rfl)) ?_
    refine ql (.pointer (some ⟨g20, 0, none⟩)) (by kernel_rfl) (by kernel_rfl) ?_
    refine ql (.int .i64 ((gx (ownB n l) j).1)) (by kernel_rfl) (R_load (p := ⟨g20, 0, none⟩) (by kernel_rfl) (by kernel_rfl) (by kernel_rfl) (HS.cell (i := 0) (j := 0) rfl rfl)) ?_
    refine qc (f := 55) (args := #[.pointer (some ⟨g4, 0, none⟩), .int .i64 ((gx (ownB n l) j).1)]) (by kernel_rfl) (R_call #[.pointer (some ⟨g4, 0, none⟩), .int .i64 ((gx (ownB n l) j).1)] Try.func55 (by kernel_rfl) (by kernel_rfl) (by kernel_rfl)) ?_
    replace HS : St W (owns []) W22 [blk g4 [.int .i64 n, .map (some b1), .pointer none] 83, mpl Try.prog 3 3 b1 us, blk g20 [.int .i64 ((gx (ownB n l) j).1), .int .i64 ((gx (ownB n l) j).2)] 79, blk g6 [.pointer (some ⟨g4, 0, none⟩)] 35, row (some ⟨g19, 0, none⟩) ((ownB n l).length) c13 (cf prC (ownB n l)) 79 2] := HS.perm (perm_ [2, 3, 0, 1, 4] (by kernel_rfl) rfl)
    have hnl23 := nam_len us ((gx (ownB n l) j).1)
    refine (knm g4 b1 us n ((gx (ownB n l) j).1) _ _ (St.focus (F := [blk g4 [.int .i64 n, .map (some b1), .pointer none] 83, mpl Try.prog 3 3 b1 us]) HS) (by omega) (by omega) (by omega)).mono ?_
    rintro e W24 ⟨rfl, H_⟩
    refine ⟨_, rfl, ?_⟩
    replace HS : St W (owns []) W24 [blk g4 [.int .i64 n, .map (some b1), .pointer none] 83, mpl Try.prog 3 3 b1 (nam us ((gx (ownB n l) j).1)), blk g20 [.int .i64 ((gx (ownB n l) j).1), .int .i64 ((gx (ownB n l) j).2)] 79, blk g6 [.pointer (some ⟨g4, 0, none⟩)] 35, row (some ⟨g19, 0, none⟩) ((ownB n l).length) c13 (cf prC (ownB n l)) 79 2] := HS.join (F := [blk g4 [.int .i64 n, .map (some b1), .pointer none] 83, mpl Try.prog 3 3 b1 us]) (G := [blk g4 [.int .i64 n, .map (some b1), .pointer none] 83, mpl Try.prog 3 3 b1 (nam us ((gx (ownB n l) j).1))]) H_
    clear H_
    refine wpList_nil ?_
    refine x_then ?_
    refine wp_region_lit ?_
    refine ql (.pointer (some ⟨g4, 0, none⟩)) (by kernel_rfl) (R_load (p := ⟨g6, 0, none⟩) (by kernel_rfl) (by kernel_rfl) (by kernel_rfl) (HS.cell (i := 3) (j := 0) rfl rfl)) ?_
    refine ql (.pointer (some ⟨g20, 1, none⟩)) (by kernel_rfl) (by kernel_rfl) ?_
    refine ql (.int .i64 ((gx (ownB n l) j).2)) (by kernel_rfl) (R_load (p := ⟨g20, 1, none⟩) (by kernel_rfl) (by kernel_rfl) (by kernel_rfl) (HS.cell (i := 2) (j := 1) rfl rfl)) ?_
    refine qc (f := 55) (args := #[.pointer (some ⟨g4, 0, none⟩), .int .i64 ((gx (ownB n l) j).2)]) (by kernel_rfl) (R_call #[.pointer (some ⟨g4, 0, none⟩), .int .i64 ((gx (ownB n l) j).2)] Try.func55 (by kernel_rfl) (by kernel_rfl) (by kernel_rfl)) ?_
    have hnl25 := nam_len (nam us ((gx (ownB n l) j).1)) ((gx (ownB n l) j).2)
    refine (knm g4 b1 (nam us ((gx (ownB n l) j).1)) n ((gx (ownB n l) j).2) _ _ (St.focus (F := [blk g4 [.int .i64 n, .map (some b1), .pointer none] 83, mpl Try.prog 3 3 b1 (nam us ((gx (ownB n l) j).1))]) HS) (by omega) (by omega) (by omega)).mono ?_
    rintro e W26 ⟨rfl, H_⟩
    refine ⟨_, rfl, ?_⟩
    replace HS : St W (owns []) W26 [blk g4 [.int .i64 n, .map (some b1), .pointer none] 83, mpl Try.prog 3 3 b1 (nam (nam us ((gx (ownB n l) j).1)) ((gx (ownB n l) j).2)), blk g20 [.int .i64 ((gx (ownB n l) j).1), .int .i64 ((gx (ownB n l) j).2)] 79, blk g6 [.pointer (some ⟨g4, 0, none⟩)] 35, row (some ⟨g19, 0, none⟩) ((ownB n l).length) c13 (cf prC (ownB n l)) 79 2] := HS.join (F := [blk g4 [.int .i64 n, .map (some b1), .pointer none] 83, mpl Try.prog 3 3 b1 (nam us ((gx (ownB n l) j).1))]) (G := [blk g4 [.int .i64 n, .map (some b1), .pointer none] 83, mpl Try.prog 3 3 b1 (nam (nam us ((gx (ownB n l) j).1)) ((gx (ownB n l) j).2))]) H_
    clear H_
    refine wpList_nil ?_
    refine x_inb ?_
    refine x_then ?_
    refine wp_region_lit ?_
    refine ql (.int .i64 (j + 1)) (by kernel_rfl) (R_int (by kernel_rfl) (w64 (by omega))) ?_
    refine ql (.int .i64 (j + 1)) (by kernel_rfl) (by kernel_rfl) ?_
    refine wpList_nil ?_
    replace HS : St W (owns []) W26 [blk g6 [.pointer (some ⟨g4, 0, none⟩)] 35, blk g4 [.int .i64 n, .map (some b1), .pointer none] 83, mpl Try.prog 3 3 b1 (nam (nam us ((gx (ownB n l) j).1)) ((gx (ownB n l) j).2)), row (some ⟨g19, 0, none⟩) ((ownB n l).length) c13 (cf prC (ownB n l)) 79 2] := St.tail (F := [blk g20 [.int .i64 ((gx (ownB n l) j).1), .int .i64 ((gx (ownB n l) j).2)] 79]) (HS.perm (perm_ [2, 3, 0, 1, 4] (by kernel_rfl) rfl))
    refine x_then ?_
    exact ⟨(ownB n l).length - ((j + 1)).toNat, by omega, (fun k_ : Nat => List.getD ((.int .i64 n) :: (.slice Al l.length cl) :: undef :: undef :: (.pointer none) :: (.pointer (some ⟨g6, 0, none⟩)) :: (.slice (some ⟨g19, 0, none⟩) ((ownB n l).length) c13) :: undef :: (.pointer (some ⟨g20, 0, none⟩)) :: undef :: undef :: (.int .i64 n) :: (.bool false) :: (.bool false) :: (.int .i64 n) :: (.bool false) :: (.bool false) :: undef :: undef :: (.int .i64 n) :: (.map (some b1)) :: (.map (some b1)) :: (.agg #[.int .i64 n, .map (some b1), .pointer none]) :: (.pointer (some ⟨g4, 0, none⟩)) :: (.slice Al l.length cl) :: (.slice A9 l.length c10) :: (.func (.func 53) #[] #[.pointer (some ⟨g6, 0, none⟩)]) :: (.slice (some ⟨g19, 0, none⟩) ((ownB n l).length) c13) :: (.slice (some ⟨g19, 0, none⟩) ((ownB n l).length) c13) :: (.int .i64 ((ownB n l).length : Int)) :: (.int .i64 (j + 1)) :: (.bool true) :: (.pointer (some ⟨g19, j.toNat * 2, none⟩)) :: (.agg #[.int .i64 ((gx (ownB n l) j).1), .int .i64 ((gx (ownB n l) j).2)]) :: (.pointer (some ⟨g4, 0, none⟩)) :: (.pointer (some ⟨g20, 0, none⟩)) :: (.int .i64 ((gx (ownB n l) j).1)) :: (.tuple #[]) :: (.pointer (some ⟨g4, 0, none⟩)) :: (.pointer (some ⟨g20, 1, none⟩)) :: (.int .i64 ((gx (ownB n l) j).2)) :: (.tuple #[]) :: (.int .i64 (j + 1)) :: undef :: undef :: undef :: undef :: undef :: undef :: undef :: undef :: undef :: undef :: undef :: undef :: undef :: undef :: undef :: undef :: undef :: undef :: undef :: undef :: undef :: undef :: undef :: undef :: undef :: undef :: undef :: undef :: undef :: undef :: undef :: undef :: undef :: undef :: undef :: undef :: undef :: undef :: undef :: undef :: undef :: undef :: undef :: undef :: undef :: undef :: undef :: undef :: undef :: []) k_ undef), (j + 1), (nam (nam us ((gx (ownB n l) j).1)) ((gx (ownB n l) j).2)), congrArg Fr (by kernel_rfl), rfl, by omega, by omega, nmP_step hN j0 (by omega), HS⟩
  · skip
    refine ql (.bool false) (by kernel_rfl) (R_nbool (p := j < ((ownB n l).length : Int)) (by kernel_rfl) (hc18)) ?_
    refine wpList_nil ?_
    refine x_then ?_
    refine wp_seq ?_
    refine wp_cond_false (by kernel_rfl) ?_
    refine wp_exit ?_
    refine x_thenE ?_
    refine x_thenE ?_
    refine x_hit ?_
    refine x_then ?_
    refine wp_seq ?_
    have hol := ownB_len n l
    obtain rfl : us = kUs n l := nmP_end hN (by omega)
    have hul := kUs_len n l
    replace HS : St W (owns []) W17 [blk g4 [.int .i64 n, .map (some b1), .pointer none] 83, blk g6 [.pointer (some ⟨g4, 0, none⟩)] 35, mpl Try.prog 3 3 b1 (kUs n l), row A12 ((ownB n l).length) c13 (cf prC (ownB n l)) 79 2] := HS.perm (perm_ [1, 0, 2, 3] (by kernel_rfl) rfl)
    refine t_start HS (fun k_ => (blk g4 [.int .i64 n, .map (some b1), .pointer none] 83).own k_) 18 (by kernel_rfl) rfl ?_
    intro W27 H_ HD_
    clear HD_
    replace HS : St W (owns []) W27 [blk g4 [.int .i64 n, .map (some b1), .pointer none] 83, blk g6 [.pointer (some ⟨g4, 0, none⟩)] 35, mpl Try.prog 3 3 b1 (kUs n l), row A12 ((ownB n l).length) c13 (cf prC (ownB n l)) 79 2] := H_
    clear H_
    have HV := HS
    have HK := Kpt.refl (fun k_ => (blk g4 [.int .i64 n, .map (some b1), .pointer none] 83).own k_) W27
    refine t_q (n := 17) 0 (.pointer (some ⟨g4, 0, none⟩)) rfl (by kernel_rfl) (by kernel_rfl) (fun _ _ _ h => h) (fun w' hk => (R_load (p := ⟨g6, 0, none⟩) (by kernel_rfl) (by kernel_rfl) (by kernel_rfl) (hk.cellN (HV.sepB (a := 1) (b := 0) (by decide) rfl rfl) (HV.cell (i := 1) (j := 0) rfl rfl)))) HK ?_
    refine t_q (n := 16) 1 (.pointer (some ⟨g4, 0, none⟩)) rfl (by kernel_rfl) (by kernel_rfl) (fun _ _ _ h => h) (fun w' hk => (R_load (p := ⟨g6, 0, none⟩) (by kernel_rfl) (by kernel_rfl) (by kernel_rfl) (hk.cellN (HV.sepB (a := 1) (b := 0) (by decide) rfl rfl) (HV.cell (i := 1) (j := 0) rfl rfl)))) HK ?_
    refine t_q (n := 15) 2 (.pointer (some ⟨g4, 0, none⟩)) rfl (by kernel_rfl) (by kernel_rfl) (fun _ _ _ h => h) (fun w' hk => (by kernel_rfl)) HK ?_
    refine t_q (n := 14) 3 (.pointer (some ⟨g4, 1, none⟩)) rfl (by kernel_rfl) (by kernel_rfl) (fun _ _ _ h => h) (fun w' hk => (by kernel_rfl)) HK ?_
    refine t_q (n := 13) 6 (.pointer (some ⟨g4, 0, none⟩)) rfl (by kernel_rfl) (by kernel_rfl) (fun _ _ _ h => h) (fun w' hk => (R_load (p := ⟨g6, 0, none⟩) (by kernel_rfl) (by kernel_rfl) (by kernel_rfl) (hk.cellN (HV.sepB (a := 1) (b := 0) (by decide) rfl rfl) (HV.cell (i := 1) (j := 0) rfl rfl)))) HK ?_
    refine t_q (n := 12) 7 (.pointer (some ⟨g4, 0, none⟩)) rfl (by kernel_rfl) (by kernel_rfl) (fun _ _ _ h => h) (fun w' hk => (by kernel_rfl)) HK ?_
    refine t_q (n := 11) 8 (.pointer (some ⟨g4, 1, none⟩)) rfl (by kernel_rfl) (by kernel_rfl) (fun _ _ _ h => h) (fun w' hk => (by kernel_rfl)) HK ?_
    refine t_pick2 (n := 10) 4 9 (by kernel_rfl) ?_ ?_
    · skip
      refine t_e2 (n := 10) 4 (.map (some b1)) rfl (by kernel_rfl) (R_load (p := ⟨g4, 1, none⟩) (by kernel_rfl) (by kernel_rfl) (by kernel_rfl) (HS.cell (i := 0) (j := 1) rfl rfl)) HK ?_
      refine t_pick2 (n := 9) 5 9 (by kernel_rfl) ?_ ?_
      · skip
        refine t_e2 (n := 9) 5 (.int .i64 ((kUs n l).length : Int)) rfl (by kernel_rfl) (R_lenP (us := (kUs n l)) (HS.get (i := 2) rfl) Try.underlying80 (by kernel_rfl)) HK ?_
        refine t_e (n := 8) 9 (.map (some b1)) rfl (by kernel_rfl) (by kernel_rfl) (R_load (p := ⟨g4, 1, none⟩) (by kernel_rfl) (by kernel_rfl) (by kernel_rfl) (HS.cell (i := 0) (j := 1) rfl rfl)) HK ?_
        refine t_e (n := 7) 10 (.int .i64 ((kUs n l).length : Int)) rfl (by kernel_rfl) (by kernel_rfl) (R_lenP (us := (kUs n l)) (HS.get (i := 2) rfl) Try.underlying80 (by kernel_rfl)) HK ?_
        refine t_c (n := 6) 11 (f := 56) (args := #[.int .i64 ((kUs n l).length : Int), .int .i64 ((kUs n l).length : Int)]) rfl (by kernel_rfl) (by kernel_rfl) (R_call #[.int .i64 ((kUs n l).length : Int), .int .i64 ((kUs n l).length : Int)] Try.func56 (by kernel_rfl) (by kernel_rfl) (by kernel_rfl)) ?_
        refine (mnew_ok ((kUs n l).length : Int) ((kUs n l).length : Int) _ (by omega) (by omega) (by omega) (by omega)).mono ?_
        rintro e W28 ⟨g9, a9, cr9, rs9, rfl, H_, hq9⟩
        rw [Int.toNat_natCast] at hq9
        have hR9 : MRep rs9 ((kUs n l).length : Int) (List.replicate (kUs n l).length ([] : List Int)) := by rw [hq9]; exact MRep.zero (by omega)
        have hl9 : rs9.length = (kUs n l).length := by rw [hq9, List.length_replicate]
        refine ⟨_, rfl, HK.tr H_.kept.nil, ?_⟩
        replace HK := HK.tr H_.kept.nil
        replace HS : St W (owns []) W28 [blk g9 [.slice (some ⟨a9, 0, none⟩) rs9.length cr9, .int .i64 ((kUs n l).length : Int)] 105, row (some ⟨a9, 0, none⟩) rs9.length cr9 (cf cpt rs9) 98 1, many (rsE 113 110 ((kUs n l).length : Int) rs9), blk g4 [.int .i64 n, .map (some b1), .pointer none] 83, blk g6 [.pointer (some ⟨g4, 0, none⟩)] 35, mpl Try.prog 3 3 b1 (kUs n l), row A12 ((ownB n l).length) c13 (cf prC (ownB n l)) 79 2] := HS.join (F := []) (G := [blk g9 [.slice (some ⟨a9, 0, none⟩) rs9.length cr9, .int .i64 ((kUs n l).length : Int)] 105, row (some ⟨a9, 0, none⟩) rs9.length cr9 (cf cpt rs9) 98 1, many (rsE 113 110 ((kUs n l).length : Int) rs9)]) H_
        clear H_
        refine t_q (n := 5) 12 (.tuple #[.pointer (some ⟨g9, 0, none⟩), .int .i64 0]) rfl (by kernel_rfl) (by kernel_rfl) (fun _ _ _ h => h) (fun w' hk => (by kernel_rfl)) HK ?_
        refine t_q (n := 4) 13 (.pointer (some ⟨g9, 0, none⟩)) rfl (by kernel_rfl) (by kernel_rfl) (fun _ _ _ h => h) (fun w' hk => (by kernel_rfl)) HK ?_
        refine t_q (n := 3) 14 (.int .i64 0) rfl (by kernel_rfl) (by kernel_rfl) (fun _ _ _ h => h) (fun w' hk => (by kernel_rfl)) HK ?_
        refine t_q (n := 2) 15 (.pointer (some ⟨g4, 0, none⟩)) rfl (by kernel_rfl) (by kernel_rfl) (fun _ _ _ h => h) (fun w' hk => (by kernel_rfl)) HK ?_
        refine t_q (n := 1) 16 (.pointer (some ⟨g4, 2, none⟩)) rfl (by kernel_rfl) (by kernel_rfl) (fun _ _ _ h => h) (fun w' hk => (by kernel_rfl)) HK ?_
        obtain ⟨W29, hrun_, H_, hk_⟩ := ex_ks (P := Try.prog) (ty := 0) (ps := "decl.go:29") (af := #[{ on := 16, ground := Go.Ground.data }, { on := 13, ground := Go.Ground.data }, { on := 11, ground := Go.Ground.chain }, { on := 0, ground := Go.Ground.phase }, { on := 1, ground := Go.Ground.phase }, { on := 2, ground := Go.Ground.phase }, { on := 3, ground := Go.Ground.phase }, { on := 4, ground := Go.Ground.phase }, { on := 5, ground := Go.Ground.phase }, { on := 6, ground := Go.Ground.phase }, { on := 7, ground := Go.Ground.phase }, { on := 8, ground := Go.Ground.phase }, { on := 9, ground := Go.Ground.phase }, { on := 10, ground := Go.Ground.phase }, { on := 11, ground := Go.Ground.phase }, { on := 12, ground := Go.Ground.phase }, { on := 13, ground := Go.Ground.phase }, { on := 14, ground := (Go.Ground.textOnly Go.Departure.lateStores) }]) (gd := none) (t := 81) (x := (Go.Operand.tmp 59)) (y := (Go.Operand.tmp 56)) (v := .pointer (some ⟨g9, 0, none⟩)) HS 3 rfl (2) [.pointer (some ⟨g9, 0, none⟩)] (by kernel_rfl) (by kernel_rfl) (by kernel_rfl) (by kernel_rfl) (one_ (by kernel_rfl)) (Nat.le_of_ble_eq_true rfl)
        replace HK := HK.trans hk_ (fun _ h_ => .inl (blk_own h_))
        refine t_s (n := 0) 17 rfl (by kernel_rfl) (by kernel_rfl) hrun_ HK ?_
        clear hk_ hrun_
        replace HS : St W (owns []) W29 [blk g9 [.slice (some ⟨a9, 0, none⟩) rs9.length cr9, .int .i64 ((kUs n l).length : Int)] 105, row (some ⟨a9, 0, none⟩) rs9.length cr9 (cf cpt rs9) 98 1, many (rsE 113 110 ((kUs n l).length : Int) rs9), blk g4 [.int .i64 n, .map (some b1), .pointer (some ⟨g9, 0, none⟩)] 83, blk g6 [.pointer (some ⟨g4, 0, none⟩)] 35, mpl Try.prog 3 3 b1 (kUs n l), row A12 ((ownB n l).length) c13 (cf prC (ownB n l)) 79 2] := H_
        clear H_
        refine t_done (by kernel_rfl) ?_
        clear HV HK
        refine x_then ?_
        refine wp_seq ?_
        refine wp_seq ?_
        refine wp_region_lit ?_
        refine ql (.slice A12 ((ownB n l).length) c13) (by kernel_rfl) (by kernel_rfl) ?_
        refine ql (.int .i64 ((ownB n l).length : Int)) (by kernel_rfl) (by kernel_rfl) ?_
        refine ql (.int .i64 0) (by kernel_rfl) (by kernel_rfl) ?_
        refine wpList_nil ?_
        refine x_then ?_
        refine wp_block ?_
        replace HS : St W (owns []) W29 [blk g6 [.pointer (some ⟨g4, 0, none⟩)] 35, blk g4 [.int .i64 n, .map (some b1), .pointer (some ⟨g9, 0, none⟩)] 83, mpl Try.prog 3 3 b1 (kUs n l), row A12 ((ownB n l).length) c13 (cf prC (ownB n l)) 79 2, blk g9 [.slice (some ⟨a9, 0, none⟩) rs9.length cr9, .int .i64 ((kUs n l).length : Int)] 105, row (some ⟨a9, 0, none⟩) rs9.length cr9 (cf cpt rs9) 98 1, many (rsE 113 110 ((kUs n l).length : Int) rs9)] := HS.perm (perm_ [4, 3, 5, 6, 0, 1, 2] (by kernel_rfl) rfl)
        refine wp_loop_ghost (fun kq a' w' => ∃ (J30 : Nat → Value) (i : Int) (rs_ : List Rw) (Ls_ : List (List Int)) , a' = Fr ((.int .i64 n) :: (.slice Al l.length cl) :: undef :: undef :: (.pointer none) :: (.pointer (some ⟨g6, 0, none⟩)) :: (.slice A12 ((ownB n l).length) c13) :: undef :: ((J15 8)) :: undef :: ((J30 10)) :: (.int .i64 n) :: (.bool false) :: (.bool false) :: (.int .i64 n) :: (.bool false) :: (.bool false) :: undef :: undef :: (.int .i64 n) :: (.map (some b1)) :: (.map (some b1)) :: (.agg #[.int .i64 n, .map (some b1), .pointer none]) :: (.pointer (some ⟨g4, 0, none⟩)) :: (.slice Al l.length cl) :: (.slice A9 l.length c10) :: (.func (.func 53) #[] #[.pointer (some ⟨g6, 0, none⟩)]) :: (.slice A12 ((ownB n l).length) c13) :: (.slice A12 ((ownB n l).length) c13) :: (.int .i64 ((ownB n l).length : Int)) :: (.int .i64 j) :: (.bool false) :: ((J15 32)) :: ((J15 33)) :: ((J15 34)) :: ((J15 35)) :: ((J15 36)) :: ((J15 37)) :: ((J15 38)) :: ((J15 39)) :: ((J15 40)) :: ((J15 41)) :: ((J15 42)) :: (.tuple #[.pointer (some ⟨g9, 0, none⟩), .int .i64 0]) :: (.pointer (some ⟨g4, 0, none⟩)) :: (.pointer (some ⟨g4, 0, none⟩)) :: (.pointer (some ⟨g4, 0, none⟩)) :: (.pointer (some ⟨g4, 1, none⟩)) :: (.map (some b1)) :: (.int .i64 ((kUs n l).length : Int)) :: (.pointer (some ⟨g4, 0, none⟩)) :: (.pointer (some ⟨g4, 0, none⟩)) :: (.pointer (some ⟨g4, 1, none⟩)) :: (.map (some b1)) :: (.int .i64 ((kUs n l).length : Int)) :: (.tuple #[.pointer (some ⟨g9, 0, none⟩), .int .i64 0]) :: (.pointer (some ⟨g9, 0, none⟩)) :: (.int .i64 0) :: (.pointer (some ⟨g4, 0, none⟩)) :: (.pointer (some ⟨g4, 2, none⟩)) :: (.slice A12 ((ownB n l).length) c13) :: (.int .i64 ((ownB n l).length : Int)) :: (.int .i64 i) :: ((J30 63)) :: ((J30 64)) :: ((J30 65)) :: ((J30 66)) :: ((J30 67)) :: ((J30 68)) :: ((J30 69)) :: ((J30 70)) :: ((J30 71)) :: ((J30 72)) :: ((J30 73)) :: ((J30 74)) :: ((J30 75)) :: ((J30 76)) :: ((J30 77)) :: ((J30 78)) :: ((J30 79)) :: ((J30 80)) :: ((J30 81)) :: ((J30 82)) :: ((J30 83)) :: ((J30 84)) :: ((J30 85)) :: undef :: undef :: undef :: undef :: undef :: undef :: []) ∧ kq = ((ownB n l).length - (i).toNat) ∧ (0 ≤ i) ∧ (i ≤ (ownB n l).length) ∧ (MRep rs_ ((kUs n l).length : Int) Ls_) ∧ (rs_.length = (kUs n l).length) ∧ (MtS Ls_ (kUs n l) (ownB n l) i) ∧ St W (owns []) w' [blk g6 [.pointer (some ⟨g4, 0, none⟩)] 35, blk g4 [.int .i64 n, .map (some b1), .pointer (some ⟨g9, 0, none⟩)] 83, mpl Try.prog 3 3 b1 (kUs n l), row A12 ((ownB n l).length) c13 (cf prC (ownB n l)) 79 2, blk g9 [.slice (some ⟨a9, 0, none⟩) rs_.length cr9, .int .i64 ((kUs n l).length : Int)] 105, row (some ⟨a9, 0, none⟩) rs_.length cr9 (cf cpt rs_) 98 1, many (rsE 113 110 ((kUs n l).length : Int) rs_)]) ((ownB n l).length - ((0 : Int)).toNat) ⟨(fun k_ : Nat => List.getD ((.int .i64 n) :: (.slice Al l.length cl) :: undef :: undef :: (.pointer none) :: (.pointer (some ⟨g6, 0, none⟩)) :: (.slice A12 ((ownB n l).length) c13) :: undef :: ((J15 8)) :: undef :: undef :: (.int .i64 n) :: (.bool false) :: (.bool false) :: (.int .i64 n) :: (.bool false) :: (.bool false) :: undef :: undef :: (.int .i64 n) :: (.map (some b1)) :: (.map (some b1)) :: (.agg #[.int .i64 n, .map (some b1), .pointer none]) :: (.pointer (some ⟨g4, 0, none⟩)) :: (.slice Al l.length cl) :: (.slice A9 l.length c10) :: (.func (.func 53) #[] #[.pointer (some ⟨g6, 0, none⟩)]) :: (.slice A12 ((ownB n l).length) c13) :: (.slice A12 ((ownB n l).length) c13) :: (.int .i64 ((ownB n l).length : Int)) :: (.int .i64 j) :: (.bool false) :: ((J15 32)) :: ((J15 33)) :: ((J15 34)) :: ((J15 35)) :: ((J15 36)) :: ((J15 37)) :: ((J15 38)) :: ((J15 39)) :: ((J15 40)) :: ((J15 41)) :: ((J15 42)) :: (.tuple #[.pointer (some ⟨g9, 0, none⟩), .int .i64 0]) :: (.pointer (some ⟨g4, 0, none⟩)) :: (.pointer (some ⟨g4, 0, none⟩)) :: (.pointer (some ⟨g4, 0, none⟩)) :: (.pointer (some ⟨g4, 1, none⟩)) :: (.map (some b1)) :: (.int .i64 ((kUs n l).length : Int)) :: (.pointer (some ⟨g4, 0, none⟩)) :: (.pointer (some ⟨g4, 0, none⟩)) :: (.pointer (some ⟨g4, 1, none⟩)) :: (.map (some b1)) :: (.int .i64 ((kUs n l).length : Int)) :: (.tuple #[.pointer (some ⟨g9, 0, none⟩), .int .i64 0]) :: (.pointer (some ⟨g9, 0, none⟩)) :: (.int .i64 0) :: (.pointer (some ⟨g4, 0, none⟩)) :: (.pointer (some ⟨g4, 2, none⟩)) :: (.slice A12 ((ownB n l).length) c13) :: (.int .i64 ((ownB n l).length : Int)) :: (.int .i64 0) :: undef :: undef :: undef :: undef :: undef :: undef :: undef :: undef :: undef :: undef :: undef :: undef :: undef :: undef :: undef :: undef :: undef :: undef :: undef :: undef :: undef :: undef :: undef :: undef :: undef :: undef :: undef :: undef :: undef :: []) k_ undef), (0 : Int), rs9, (List.replicate (kUs n l).length ([] : List Int)), congrArg Fr (by kernel_rfl), rfl, by omega, by omega, hR9, hl9, mtS_start _ _, HS⟩ ?_
        clear HS
        intro kq31 a' W32 hrel
        obtain ⟨J30, i, rs_, Ls_, rfl, hk, i0, i1, hRk, hrl, hT, HS⟩ := hrel
        refine wp_seq ?_
        refine wp_region_lit ?_
        by_cases hc33 : i < ((ownB n l).length : Int)
        · skip
          refine ql (.bool true) (by kernel_rfl) (R_bool (p := i < ((ownB n l).length : Int)) (by kernel_rfl) (hc33)) ?_
          refine wpList_nil ?_
          refine x_then ?_
          refine wp_seq ?_
          refine wp_cond_true (by kernel_rfl) ?_
          refine wp_skip ?_
          refine x_then ?_
          refine wp_seq ?_
          refine wp_block ?_
          refine wp_seq ?_
          have hgo := own_gx (n := n) (l := l) i0 (by omega)
          refine wp_region_lit ?_
          obtain ⟨g34, rfl⟩ := St.rsome HS (i := 3) rfl (by omega)
          refine ql (.pointer (some ⟨g34, i.toNat * 2, none⟩)) (by kernel_rfl) (R_index (k := .i64) (g := g34) (n := ((ownB n l).length)) (c := c13) (i := i) (by kernel_rfl) (by kernel_rfl) Try.underlying34 (by kernel_rfl) (by omega) (by omega)) ?_
          refine ql (.agg #[.int .i64 ((gx (ownB n l) i).1), .int .i64 ((gx (ownB n l) i).2)]) (by kernel_rfl) (R_loadN (p := ⟨g34, i.toNat * 2, none⟩) [.int .i64 ((gx (ownB n l) i).1), .int .i64 ((gx (ownB n l) i).2)] (by kernel_rfl) (by kernel_rfl) (by kernel_rfl) (by kernel_rfl) (HS.elem (f := prC) (z := 2) (fun _ => rfl) (i := 3) rfl (gx_eq (by omega) (by omega)))) ?_
          refine kb HS [.int .i64 0, .int .i64 0] 79 (fun g => .pointer (some ⟨g, 0, none⟩)) (by kernel_rfl) (by kernel_rfl) ?_
          intro g35 W36 H_
          replace HS : St W (owns []) W36 [blk g35 [.int .i64 0, .int .i64 0] 79, blk g6 [.pointer (some ⟨g4, 0, none⟩)] 35, blk g4 [.int .i64 n, .map (some b1), .pointer (some ⟨g9, 0, none⟩)] 83, mpl Try.prog 3 3 b1 (kUs n l), row (some ⟨g34, 0, none⟩) ((ownB n l).length) c13 (cf prC (ownB n l)) 79 2, blk g9 [.slice (some ⟨a9, 0, none⟩) rs_.length cr9, .int .i64 ((kUs n l).length : Int)] 105, row (some ⟨a9, 0, none⟩) rs_.length cr9 (cf cpt rs_) 98 1, many (rsE 113 110 ((kUs n l).length : Int) rs_)] := H_
          clear H_
          refine ks (v := .agg #[.int .i64 ((gx (ownB n l) i).1), .int .i64 ((gx (ownB n l) i).2)]) HS 0 rfl (0) [.int .i64 ((gx (ownB n l) i).1), .int .i64 ((gx (ownB n l) i).2)] (by kernel_rfl) (by kernel_rfl) (by kernel_rfl) (by kernel_rfl) (by kernel_rfl) (one_ (by kernel_rfl)) (Nat.le_of_ble_eq_true rfl) rfl ?_
          intro W37 H_
          replace HS : St W (owns []) W37 [blk g35 [.int .i64 ((gx (ownB n l) i).1), .int .i64 ((gx (ownB n l) i).2)] 79, blk g6 [.pointer (some ⟨g4, 0, none⟩)] 35, blk g4 [.int .i64 n, .map (some b1), .pointer (some ⟨g9, 0, none⟩)] 83, mpl Try.prog 3 3 b1 (kUs n l), row (some ⟨g34, 0, none⟩) ((ownB n l).length) c13 (cf prC (ownB n l)) 79 2, blk g9 [.slice (some ⟨a9, 0, none⟩) rs_.length cr9, .int .i64 ((kUs n l).length : Int)] 105, row (some ⟨a9, 0, none⟩) rs_.length cr9 (cf cpt rs_) 98 1, many (rsE 113 110 ((kUs n l).length : Int) rs_)] := H_
          clear H_
          refine wpList_nil ?_
          refine x_then ?_
          replace HS : St W (owns []) W37 [blk g9 [.slice (some ⟨a9, 0, none⟩) rs_.length cr9, .int .i64 ((kUs n l).length : Int)] 105, row (some ⟨a9, 0, none⟩) rs_.length cr9 (cf cpt rs_) 98 1, many (rsE 113 110 ((kUs n l).length : Int) rs_), blk g35 [.int .i64 ((gx (ownB n l) i).1), .int .i64 ((gx (ownB n l) i).2)] 79, blk g6 [.pointer (some ⟨g4, 0, none⟩)] 35, blk g4 [.int .i64 n, .map (some b1), .pointer (some ⟨g9, 0, none⟩)] 83, mpl Try.prog 3 3 b1 (kUs n l), row (some ⟨g34, 0, none⟩) ((ownB n l).length) c13 (cf prC (ownB n l)) 79 2] := HS.perm (perm_ [5, 6, 7, 0, 1, 2, 3, 4] (by kernel_rfl) rfl)
          have hp1 := plv_rng hgo.2.2.1
          have hp2 := plv_rng hgo.2.2.2
          refine rg_still HS 18 (by kernel_rfl) (by kernel_rfl) ?_
          intro W38 H_ HK_
          simp only [List.take_succ_cons, List.take_zero, List.drop_succ_cons, List.drop_zero]
          replace HS : St W (owns []) W38 [blk g9 [.slice (some ⟨a9, 0, none⟩) rs_.length cr9, .int .i64 ((kUs n l).length : Int)] 105, row (some ⟨a9, 0, none⟩) rs_.length cr9 (cf cpt rs_) 98 1, many (rsE 113 110 ((kUs n l).length : Int) rs_), blk g35 [.int .i64 ((gx (ownB n l) i).1), .int .i64 ((gx (ownB n l) i).2)] 79, blk g6 [.pointer (some ⟨g4, 0, none⟩)] 35, blk g4 [.int .i64 n, .map (some b1), .pointer (some ⟨g9, 0, none⟩)] 83, mpl Try.prog 3 3 b1 (kUs n l), row (some ⟨g34, 0, none⟩) ((ownB n l).length) c13 (cf prC (ownB n l)) 79 2] := H_
          clear H_
          clear HK_
          refine qs (.pointer (some ⟨g4, 0, none⟩)) (by kernel_rfl) (R_load (p := ⟨g6, 0, none⟩) (by kernel_rfl) (by kernel_rfl) (by kernel_rfl) (HS.cell (i := 4) (j := 0) rfl rfl)) ?_
          refine qs (.pointer (some ⟨g4, 0, none⟩)) (by kernel_rfl) (by kernel_rfl) ?_
          refine qs (.pointer (some ⟨g4, 2, none⟩)) (by kernel_rfl) (by kernel_rfl) ?_
          refine qs (.pointer (some ⟨g9, 0, none⟩)) (by kernel_rfl) (R_load (p := ⟨g4, 2, none⟩) (by kernel_rfl) (by kernel_rfl) (by kernel_rfl) (HS.cell (i := 5) (j := 2) rfl rfl)) ?_
          refine qs (.pointer (some ⟨g4, 0, none⟩)) (by kernel_rfl) (R_load (p := ⟨g6, 0, none⟩) (by kernel_rfl) (by kernel_rfl) (by kernel_rfl) (HS.cell (i := 4) (j := 0) rfl rfl)) ?_
          refine qs (.pointer (some ⟨g4, 0, none⟩)) (by kernel_rfl) (by kernel_rfl) ?_
          refine qs (.pointer (some ⟨g4, 1, none⟩)) (by kernel_rfl) (by kernel_rfl) ?_
          refine qs (.map (some b1)) (by kernel_rfl) (R_load (p := ⟨g4, 1, none⟩) (by kernel_rfl) (by kernel_rfl) (by kernel_rfl) (HS.cell (i := 5) (j := 1) rfl rfl)) ?_
          refine qs (.pointer (some ⟨g35, 0, none⟩)) (by kernel_rfl) (by kernel_rfl) ?_
          refine qs (.int .i64 ((gx (ownB n l) i).1)) (by kernel_rfl) (R_load (p := ⟨g35, 0, none⟩) (by kernel_rfl) (by kernel_rfl) (by kernel_rfl) (HS.cell (i := 3) (j := 0) rfl rfl)) ?_
          refine qs (.int .i64 (plv (kUs n l) ((gx (ownB n l) i).1))) (by kernel_rfl) (R_lookP (b := b1) (us := (kUs n l)) (i := (gx (ownB n l) i).1) (HS.get (i := 6) rfl) (Maps.int_keyed Try.underlying3) Try.underlying80 Try.underlying3 (by kernel_rfl) (by kernel_rfl) (by kernel_rfl) (Maps.keyOf_int_mk Try.underlying3 (WalkArith.wf_i64 (by omega)))) ?_
          refine qs (.pointer (some ⟨g4, 0, none⟩)) (by kernel_rfl) (R_load (p := ⟨g6, 0, none⟩) (by kernel_rfl) (by kernel_rfl) (by kernel_rfl) (HS.cell (i := 4) (j := 0) rfl rfl)) ?_
          refine qs (.pointer (some ⟨g4, 0, none⟩)) (by kernel_rfl) (by kernel_rfl) ?_
          refine qs (.pointer (some ⟨g4, 1, none⟩)) (by kernel_rfl) (by kernel_rfl) ?_
          refine qs (.map (some b1)) (by kernel_rfl) (R_load (p := ⟨g4, 1, none⟩) (by kernel_rfl) (by kernel_rfl) (by kernel_rfl) (HS.cell (i := 5) (j := 1) rfl rfl)) ?_
          refine qs (.pointer (some ⟨g35, 1, none⟩)) (by kernel_rfl) (by kernel_rfl) ?_
          refine qs (.int .i64 ((gx (ownB n l) i).2)) (by kernel_rfl) (R_load (p := ⟨g35, 1, none⟩) (by kernel_rfl) (by kernel_rfl) (by kernel_rfl) (HS.cell (i := 3) (j := 1) rfl rfl)) ?_
          refine qs (.int .i64 (plv (kUs n l) ((gx (ownB n l) i).2))) (by kernel_rfl) (R_lookP (b := b1) (us := (kUs n l)) (i := (gx (ownB n l) i).2) (HS.get (i := 6) rfl) (Maps.int_keyed Try.underlying3) Try.underlying80 Try.underlying3 (by kernel_rfl) (by kernel_rfl) (by kernel_rfl) (Maps.keyOf_int_mk Try.underlying3 (WalkArith.wf_i64 (by omega)))) ?_
          refine wpStill_nil ?_
          refine qc (f := 57) (args := #[.pointer (some ⟨g9, 0, none⟩), .int .i64 (plv (kUs n l) ((gx (ownB n l) i).1)), .int .i64 (plv (kUs n l) ((gx (ownB n l) i).2))]) (by kernel_rfl) (R_call #[.pointer (some ⟨g9, 0, none⟩), .int .i64 (plv (kUs n l) ((gx (ownB n l) i).1)), .int .i64 (plv (kUs n l) ((gx (ownB n l) i).2))] Try.func57 (by kernel_rfl) (by kernel_rfl) (by kernel_rfl)) ?_
          refine (madd g9 cr9 (some ⟨a9, 0, none⟩) ((kUs n l).length : Int) rs_ Ls_ (plv (kUs n l) ((gx (ownB n l) i).1)) (plv (kUs n l) ((gx (ownB n l) i).2)) _ _ (St.focus (F := [blk g9 [.slice (some ⟨a9, 0, none⟩) rs_.length cr9, .int .i64 ((kUs n l).length : Int)] 105, row (some ⟨a9, 0, none⟩) rs_.length cr9 (cf cpt rs_) 98 1, many (rsE 113 110 ((kUs n l).length : Int) rs_)]) HS) hRk (by omega) (by omega)).mono ?_
          rintro e W41 ⟨rs39, rfl, H_, hR40, hlrs39⟩
          refine ⟨_, rfl, ?_⟩
          replace HS : St W (owns []) W41 [blk g9 [.slice (some ⟨a9, 0, none⟩) rs39.length cr9, .int .i64 ((kUs n l).length : Int)] 105, row (some ⟨a9, 0, none⟩) rs39.length cr9 (cf cpt rs39) 98 1, many (rsE 113 110 ((kUs n l).length : Int) rs39), blk g35 [.int .i64 ((gx (ownB n l) i).1), .int .i64 ((gx (ownB n l) i).2)] 79, blk g6 [.pointer (some ⟨g4, 0, none⟩)] 35, blk g4 [.int .i64 n, .map (some b1), .pointer (some ⟨g9, 0, none⟩)] 83, mpl Try.prog 3 3 b1 (kUs n l), row (some ⟨g34, 0, none⟩) ((ownB n l).length) c13 (cf prC (ownB n l)) 79 2] := HS.join (F := [blk g9 [.slice (some ⟨a9, 0, none⟩) rs_.length cr9, .int .i64 ((kUs n l).length : Int)] 105, row (some ⟨a9, 0, none⟩) rs_.length cr9 (cf cpt rs_) 98 1, many (rsE 113 110 ((kUs n l).length : Int) rs_)]) (G := [blk g9 [.slice (some ⟨a9, 0, none⟩) rs39.length cr9, .int .i64 ((kUs n l).length : Int)] 105, row (some ⟨a9, 0, none⟩) rs39.length cr9 (cf cpt rs39) 98 1, many (rsE 113 110 ((kUs n l).length : Int) rs39)]) H_
          clear H_
          refine wpList_nil ?_
          refine x_inb ?_
          refine x_then ?_
          refine wp_region_lit ?_
          refine ql (.int .i64 (i + 1)) (by kernel_rfl) (R_int (by kernel_rfl) (w64 (by omega))) ?_
          refine ql (.int .i64 (i + 1)) (by kernel_rfl) (by kernel_rfl) ?_
          refine wpList_nil ?_
          replace HS : St W (owns []) W41 [blk g6 [.pointer (some ⟨g4, 0, none⟩)] 35, blk g4 [.int .i64 n, .map (some b1), .pointer (some ⟨g9, 0, none⟩)] 83, mpl Try.prog 3 3 b1 (kUs n l), row (some ⟨g34, 0, none⟩) ((ownB n l).length) c13 (cf prC (ownB n l)) 79 2, blk g9 [.slice (some ⟨a9, 0, none⟩) rs39.length cr9, .int .i64 ((kUs n l).length : Int)] 105, row (some ⟨a9, 0, none⟩) rs39.length cr9 (cf cpt rs39) 98 1, many (rsE 113 110 ((kUs n l).length : Int) rs39)] := St.tail (F := [blk g35 [.int .i64 ((gx (ownB n l) i).1), .int .i64 ((gx (ownB n l) i).2)] 79]) (HS.perm (perm_ [3, 4, 5, 6, 7, 0, 1, 2] (by kernel_rfl) rfl))
          refine x_then ?_
          exact ⟨(ownB n l).length - ((i + 1)).toNat, by omega, (fun k_ : Nat => List.getD ((.int .i64 n) :: (.slice Al l.length cl) :: undef :: undef :: (.pointer none) :: (.pointer (some ⟨g6, 0, none⟩)) :: (.slice (some ⟨g34, 0, none⟩) ((ownB n l).length) c13) :: undef :: ((J15 8)) :: undef :: (.pointer (some ⟨g35, 0, none⟩)) :: (.int .i64 n) :: (.bool false) :: (.bool false) :: (.int .i64 n) :: (.bool false) :: (.bool false) :: undef :: undef :: (.int .i64 n) :: (.map (some b1)) :: (.map (some b1)) :: (.agg #[.int .i64 n, .map (some b1), .pointer none]) :: (.pointer (some ⟨g4, 0, none⟩)) :: (.slice Al l.length cl) :: (.slice A9 l.length c10) :: (.func (.func 53) #[] #[.pointer (some ⟨g6, 0, none⟩)]) :: (.slice (some ⟨g34, 0, none⟩) ((ownB n l).length) c13) :: (.slice (some ⟨g34, 0, none⟩) ((ownB n l).length) c13) :: (.int .i64 ((ownB n l).length : Int)) :: (.int .i64 j) :: (.bool false) :: ((J15 32)) :: ((J15 33)) :: ((J15 34)) :: ((J15 35)) :: ((J15 36)) :: ((J15 37)) :: ((J15 38)) :: ((J15 39)) :: ((J15 40)) :: ((J15 41)) :: ((J15 42)) :: (.tuple #[.pointer (some ⟨g9, 0, none⟩), .int .i64 0]) :: (.pointer (some ⟨g4, 0, none⟩)) :: (.pointer (some ⟨g4, 0, none⟩)) :: (.pointer (some ⟨g4, 0, none⟩)) :: (.pointer (some ⟨g4, 1, none⟩)) :: (.map (some b1)) :: (.int .i64 ((kUs n l).length : Int)) :: (.pointer (some ⟨g4, 0, none⟩)) :: (.pointer (some ⟨g4, 0, none⟩)) :: (.pointer (some ⟨g4, 1, none⟩)) :: (.map (some b1)) :: (.int .i64 ((kUs n l).length : Int)) :: (.tuple #[.pointer (some ⟨g9, 0, none⟩), .int .i64 0]) :: (.pointer (some ⟨g9, 0, none⟩)) :: (.int .i64 0) :: (.pointer (some ⟨g4, 0, none⟩)) :: (.pointer (some ⟨g4, 2, none⟩)) :: (.slice (some ⟨g34, 0, none⟩) ((ownB n l).length) c13) :: (.int .i64 ((ownB n l).length : Int)) :: (.int .i64 (i + 1)) :: (.bool true) :: (.pointer (some ⟨g34, i.toNat * 2, none⟩)) :: (.agg #[.int .i64 ((gx (ownB n l) i).1), .int .i64 ((gx (ownB n l) i).2)]) :: (.pointer (some ⟨g4, 0, none⟩)) :: (.pointer (some ⟨g4, 0, none⟩)) :: (.pointer (some ⟨g4, 2, none⟩)) :: (.pointer (some ⟨g9, 0, none⟩)) :: (.pointer (some ⟨g4, 0, none⟩)) :: (.pointer (some ⟨g4, 0, none⟩)) :: (.pointer (some ⟨g4, 1, none⟩)) :: (.map (some b1)) :: (.pointer (some ⟨g35, 0, none⟩)) :: (.int .i64 ((gx (ownB n l) i).1)) :: (.int .i64 (plv (kUs n l) ((gx (ownB n l) i).1))) :: (.pointer (some ⟨g4, 0, none⟩)) :: (.pointer (some ⟨g4, 0, none⟩)) :: (.pointer (some ⟨g4, 1, none⟩)) :: (.map (some b1)) :: (.pointer (some ⟨g35, 1, none⟩)) :: (.int .i64 ((gx (ownB n l) i).2)) :: (.int .i64 (plv (kUs n l) ((gx (ownB n l) i).2))) :: (.bool (addMB Ls_ ((kUs n l).length : Int) (plv (kUs n l) ((gx (ownB n l) i).1)) (plv (kUs n l) ((gx (ownB n l) i).2)))) :: (.int .i64 (i + 1)) :: undef :: undef :: undef :: undef :: undef :: undef :: []) k_ undef), (i + 1), rs39, (addM Ls_ ((kUs n l).length : Int) (plv (kUs n l) ((gx (ownB n l) i).1)) (plv (kUs n l) ((gx (ownB n l) i).2))), congrArg Fr (by kernel_rfl), rfl, by omega, by omega, hR40, (by omega), mtS_step hT i0 (by omega), HS⟩
        · skip
          refine ql (.bool false) (by kernel_rfl) (R_nbool (p := i < ((ownB n l).length : Int)) (by kernel_rfl) (hc33)) ?_
          refine wpList_nil ?_
          refine x_then ?_
          refine wp_seq ?_
          refine wp_cond_false (by kernel_rfl) ?_
          refine wp_exit ?_
          refine x_thenE ?_
          refine x_thenE ?_
          refine x_hit ?_
          refine x_then ?_
          refine wp_seq ?_
          refine wp_region_lit ?_
          refine ql (.pointer (some ⟨g4, 0, none⟩)) (by kernel_rfl) (R_load (p := ⟨g6, 0, none⟩) (by kernel_rfl) (by kernel_rfl) (by kernel_rfl) (HS.cell (i := 0) (j := 0) rfl rfl)) ?_
          refine ql (.pointer (some ⟨g4, 0, none⟩)) (by kernel_rfl) (by kernel_rfl) ?_
          refine ql (.pointer (some ⟨g4, 2, none⟩)) (by kernel_rfl) (by kernel_rfl) ?_
          refine ql (.pointer (some ⟨g9, 0, none⟩)) (by kernel_rfl) (R_load (p := ⟨g4, 2, none⟩) (by kernel_rfl) (by kernel_rfl) (by kernel_rfl) (HS.cell (i := 1) (j := 2) rfl rfl)) ?_
          refine qc (f := 58) (args := #[.pointer (some ⟨g9, 0, none⟩)]) (by kernel_rfl) (R_call #[.pointer (some ⟨g9, 0, none⟩)] Try.func58 (by kernel_rfl) (by kernel_rfl) (by kernel_rfl)) ?_
          replace HS : St W (owns []) W32 [blk g9 [.slice (some ⟨a9, 0, none⟩) rs_.length cr9, .int .i64 ((kUs n l).length : Int)] 105, row (some ⟨a9, 0, none⟩) rs_.length cr9 (cf cpt rs_) 98 1, many (rsE 113 110 ((kUs n l).length : Int) rs_), blk g6 [.pointer (some ⟨g4, 0, none⟩)] 35, blk g4 [.int .i64 n, .map (some b1), .pointer (some ⟨g9, 0, none⟩)] 83, mpl Try.prog 3 3 b1 (kUs n l), row A12 ((ownB n l).length) c13 (cf prC (ownB n l)) 79 2] := HS.perm (perm_ [4, 5, 6, 0, 1, 2, 3] (by kernel_rfl) rfl)
          refine (mclose g9 cr9 (some ⟨a9, 0, none⟩) ((kUs n l).length : Int) rs_ Ls_ _ _ (St.focus (F := [blk g9 [.slice (some ⟨a9, 0, none⟩) rs_.length cr9, .int .i64 ((kUs n l).length : Int)] 105, row (some ⟨a9, 0, none⟩) rs_.length cr9 (cf cpt rs_) 98 1, many (rsE 113 110 ((kUs n l).length : Int) rs_)]) HS) hRk (by omega) (by omega) (by omega)).mono ?_
          rintro e W42 ⟨rs8, rfl, H_, hR8, hl8⟩
          refine ⟨_, rfl, ?_⟩
          replace HS : St W (owns []) W42 [blk g9 [.slice (some ⟨a9, 0, none⟩) rs8.length cr9, .int .i64 ((kUs n l).length : Int)] 105, row (some ⟨a9, 0, none⟩) rs8.length cr9 (cf cpt rs8) 98 1, many (rsE 113 110 ((kUs n l).length : Int) rs8), blk g6 [.pointer (some ⟨g4, 0, none⟩)] 35, blk g4 [.int .i64 n, .map (some b1), .pointer (some ⟨g9, 0, none⟩)] 83, mpl Try.prog 3 3 b1 (kUs n l), row A12 ((ownB n l).length) c13 (cf prC (ownB n l)) 79 2] := HS.join (F := [blk g9 [.slice (some ⟨a9, 0, none⟩) rs_.length cr9, .int .i64 ((kUs n l).length : Int)] 105, row (some ⟨a9, 0, none⟩) rs_.length cr9 (cf cpt rs_) 98 1, many (rsE 113 110 ((kUs n l).length : Int) rs_)]) (G := [blk g9 [.slice (some ⟨a9, 0, none⟩) rs8.length cr9, .int .i64 ((kUs n l).length : Int)] 105, row (some ⟨a9, 0, none⟩) rs8.length cr9 (cf cpt rs8) 98 1, many (rsE 113 110 ((kUs n l).length : Int) rs8)]) H_
          clear H_
          refine wpList_nil ?_
          refine x_then ?_
          refine wp_seq ?_
          refine wp_region_lit ?_
          refine ql (.pointer (some ⟨g4, 0, none⟩)) (by kernel_rfl) (R_load (p := ⟨g6, 0, none⟩) (by kernel_rfl) (by kernel_rfl) (by kernel_rfl) (HS.cell (i := 3) (j := 0) rfl rfl)) ?_
          refine ql (.pointer (some ⟨g4, 0, none⟩)) (by kernel_rfl) (by kernel_rfl) ?_
          refine wpList_nil ?_
          refine x_then ?_
          refine wp_ret ?_
          refine ret_ (.pointer (some ⟨g4, 0, none⟩)) (by kernel_rfl) ?_
          replace HS : St W (owns []) W42 [blk g4 [.int .i64 n, .map (some b1), .pointer (some ⟨g9, 0, none⟩)] 83, mpl Try.prog 3 3 b1 (kUs n l), blk g9 [.slice (some ⟨a9, 0, none⟩) rs8.length cr9, .int .i64 ((kUs n l).length : Int)] 105, row (some ⟨a9, 0, none⟩) rs8.length cr9 (cf cpt rs8) 98 1, many (rsE 113 110 ((kUs n l).length : Int) rs8)] := St.tail (F := [blk g6 [.pointer (some ⟨g4, 0, none⟩)] 35, row A12 ((ownB n l).length) c13 (cf prC (ownB n l)) 79 2]) (HS.perm (perm_ [3, 6, 4, 5, 0, 1, 2] (by kernel_rfl) rfl))
          have hLs : Ls_ = kMat (kUs n l) (ownB n l) := mtS_end hT (by omega)
          exact ⟨g4, ⟨b1, g9, cr9, (some ⟨a9, 0, none⟩), rs8, kUs n l⟩, rfl, St.close1 HS, ⟨rfl, by rw [hLs] at hR8; exact hR8⟩⟩
      · skip
        refine t_e2 (n := 9) 9 (.map (some b1)) rfl (by kernel_rfl) (R_load (p := ⟨g4, 1, none⟩) (by kernel_rfl) (by kernel_rfl) (by kernel_rfl) (HS.cell (i := 0) (j := 1) rfl rfl)) HK ?_
        refine t_e (n := 8) 5 (.int .i64 ((kUs n l).length : Int)) rfl (by kernel_rfl) (by kernel_rfl) (R_lenP (us := (kUs n l)) (HS.get (i := 2) rfl) Try.underlying80 (by kernel_rfl)) HK ?_
        refine t_e (n := 7) 10 (.int .i64 ((kUs n l).length : Int)) rfl (by kernel_rfl) (by kernel_rfl) (R_lenP (us := (kUs n l)) (HS.get (i := 2) rfl) Try.underlying80 (by kernel_rfl)) HK ?_
        refine t_c (n := 6) 11 (f := 56) (args := #[.int .i64 ((kUs n l).length : Int), .int .i64 ((kUs n l).length : Int)]) rfl (by kernel_rfl) (by kernel_rfl) (R_call #[.int .i64 ((kUs n l).length : Int), .int .i64 ((kUs n l).length : Int)] Try.func56 (by kernel_rfl) (by kernel_rfl) (by kernel_rfl)) ?_
        refine (mnew_ok ((kUs n l).length : Int) ((kUs n l).length : Int) _ (by omega) (by omega) (by omega) (by omega)).mono ?_
        rintro e W43 ⟨g9, a9, cr9, rs9, rfl, H_, hq9⟩
        rw [Int.toNat_natCast] at hq9
        have hR9 : MRep rs9 ((kUs n l).length : Int) (List.replicate (kUs n l).length ([] : List Int)) := by rw [hq9]; exact MRep.zero (by omega)
        have hl9 : rs9.length = (kUs n l).length := by rw [hq9, List.length_replicate]
        refine ⟨_, rfl, HK.tr H_.kept.nil, ?_⟩
        replace HK := HK.tr H_.kept.nil
        replace HS : St W (owns []) W43 [blk g9 [.slice (some ⟨a9, 0, none⟩) rs9.length cr9, .int .i64 ((kUs n l).length : Int)] 105, row (some ⟨a9, 0, none⟩) rs9.length cr9 (cf cpt rs9) 98 1, many (rsE 113 110 ((kUs n l).length : Int) rs9), blk g4 [.int .i64 n, .map (some b1), .pointer none] 83, blk g6 [.pointer (some ⟨g4, 0, none⟩)] 35, mpl Try.prog 3 3 b1 (kUs n l), row A12 ((ownB n l).length) c13 (cf prC (ownB n l)) 79 2] := HS.join (F := []) (G := [blk g9 [.slice (some ⟨a9, 0, none⟩) rs9.length cr9, .int .i64 ((kUs n l).length : Int)] 105, row (some ⟨a9, 0, none⟩) rs9.length cr9 (cf cpt rs9) 98 1, many (rsE 113 110 ((kUs n l).length : Int) rs9)]) H_
        clear H_
        refine t_q (n := 5) 12 (.tuple #[.pointer (some ⟨g9, 0, none⟩), .int .i64 0]) rfl (by kernel_rfl) (by kernel_rfl) (fun _ _ _ h => h) (fun w' hk => (by kernel_rfl)) HK ?_
        refine t_q (n := 4) 13 (.pointer (some ⟨g9, 0, none⟩)) rfl (by kernel_rfl) (by kernel_rfl) (fun _ _ _ h => h) (fun w' hk => (by kernel_rfl)) HK ?_
        refine t_q (n := 3) 14 (.int .i64 0) rfl (by kernel_rfl) (by kernel_rfl) (fun _ _ _ h => h) (fun w' hk => (by kernel_rfl)) HK ?_
        refine t_q (n := 2) 15 (.pointer (some ⟨g4, 0, none⟩)) rfl (by kernel_rfl) (by kernel_rfl) (fun _ _ _ h => h) (fun w' hk => (by kernel_rfl)) HK ?_
        refine t_q (n := 1) 16 (.pointer (some ⟨g4, 2, none⟩)) rfl (by kernel_rfl) (by kernel_rfl) (fun _ _ _ h => h) (fun w' hk => (by kernel_rfl)) HK ?_
        obtain ⟨W44, hrun_, H_, hk_⟩ := ex_ks (P := Try.prog) (ty := 0) (ps := "decl.go:29") (af := #[{ on := 16, ground := Go.Ground.data }, { on := 13, ground := Go.Ground.data }, { on := 11, ground := Go.Ground.chain }, { on := 0, ground := Go.Ground.phase }, { on := 1, ground := Go.Ground.phase }, { on := 2, ground := Go.Ground.phase }, { on := 3, ground := Go.Ground.phase }, { on := 4, ground := Go.Ground.phase }, { on := 5, ground := Go.Ground.phase }, { on := 6, ground := Go.Ground.phase }, { on := 7, ground := Go.Ground.phase }, { on := 8, ground := Go.Ground.phase }, { on := 9, ground := Go.Ground.phase }, { on := 10, ground := Go.Ground.phase }, { on := 11, ground := Go.Ground.phase }, { on := 12, ground := Go.Ground.phase }, { on := 13, ground := Go.Ground.phase }, { on := 14, ground := (Go.Ground.textOnly Go.Departure.lateStores) }]) (gd := none) (t := 81) (x := (Go.Operand.tmp 59)) (y := (Go.Operand.tmp 56)) (v := .pointer (some ⟨g9, 0, none⟩)) HS 3 rfl (2) [.pointer (some ⟨g9, 0, none⟩)] (by kernel_rfl) (by kernel_rfl) (by kernel_rfl) (by kernel_rfl) (one_ (by kernel_rfl)) (Nat.le_of_ble_eq_true rfl)
        replace HK := HK.trans hk_ (fun _ h_ => .inl (blk_own h_))
        refine t_s (n := 0) 17 rfl (by kernel_rfl) (by kernel_rfl) hrun_ HK ?_
        clear hk_ hrun_
        replace HS : St W (owns []) W44 [blk g9 [.slice (some ⟨a9, 0, none⟩) rs9.length cr9, .int .i64 ((kUs n l).length : Int)] 105, row (some ⟨a9, 0, none⟩) rs9.length cr9 (cf cpt rs9) 98 1, many (rsE 113 110 ((kUs n l).length : Int) rs9), blk g4 [.int .i64 n, .map (some b1), .pointer (some ⟨g9, 0, none⟩)] 83, blk g6 [.pointer (some ⟨g4, 0, none⟩)] 35, mpl Try.prog 3 3 b1 (kUs n l), row A12 ((ownB n l).length) c13 (cf prC (ownB n l)) 79 2] := H_
        clear H_
        refine t_done (by kernel_rfl) ?_
        clear HV HK
        refine x_then ?_
        refine wp_seq ?_
        refine wp_seq ?_
        refine wp_region_lit ?_
        refine ql (.slice A12 ((ownB n l).length) c13) (by kernel_rfl) (by kernel_rfl) ?_
        refine ql (.int .i64 ((ownB n l).length : Int)) (by kernel_rfl) (by kernel_rfl) ?_
        refine ql (.int .i64 0) (by kernel_rfl) (by kernel_rfl) ?_
        refine wpList_nil ?_
        refine x_then ?_
        refine wp_block ?_
        replace HS : St W (owns []) W44 [blk g6 [.pointer (some ⟨g4, 0, none⟩)] 35, blk g4 [.int .i64 n, .map (some b1), .pointer (some ⟨g9, 0, none⟩)] 83, mpl Try.prog 3 3 b1 (kUs n l), row A12 ((ownB n l).length) c13 (cf prC (ownB n l)) 79 2, blk g9 [.slice (some ⟨a9, 0, none⟩) rs9.length cr9, .int .i64 ((kUs n l).length : Int)] 105, row (some ⟨a9, 0, none⟩) rs9.length cr9 (cf cpt rs9) 98 1, many (rsE 113 110 ((kUs n l).length : Int) rs9)] := HS.perm (perm_ [4, 3, 5, 6, 0, 1, 2] (by kernel_rfl) rfl)
        refine wp_loop_ghost (fun kq a' w' => ∃ (J45 : Nat → Value) (i : Int) (rs_ : List Rw) (Ls_ : List (List Int)) , a' = Fr ((.int .i64 n) :: (.slice Al l.length cl) :: undef :: undef :: (.pointer none) :: (.pointer (some ⟨g6, 0, none⟩)) :: (.slice A12 ((ownB n l).length) c13) :: undef :: ((J15 8)) :: undef :: ((J45 10)) :: (.int .i64 n) :: (.bool false) :: (.bool false) :: (.int .i64 n) :: (.bool false) :: (.bool false) :: undef :: undef :: (.int .i64 n) :: (.map (some b1)) :: (.map (some b1)) :: (.agg #[.int .i64 n, .map (some b1), .pointer none]) :: (.pointer (some ⟨g4, 0, none⟩)) :: (.slice Al l.length cl) :: (.slice A9 l.length c10) :: (.func (.func 53) #[] #[.pointer (some ⟨g6, 0, none⟩)]) :: (.slice A12 ((ownB n l).length) c13) :: (.slice A12 ((ownB n l).length) c13) :: (.int .i64 ((ownB n l).length : Int)) :: (.int .i64 j) :: (.bool false) :: ((J15 32)) :: ((J15 33)) :: ((J15 34)) :: ((J15 35)) :: ((J15 36)) :: ((J15 37)) :: ((J15 38)) :: ((J15 39)) :: ((J15 40)) :: ((J15 41)) :: ((J15 42)) :: (.tuple #[.pointer (some ⟨g9, 0, none⟩), .int .i64 0]) :: (.pointer (some ⟨g4, 0, none⟩)) :: (.pointer (some ⟨g4, 0, none⟩)) :: (.pointer (some ⟨g4, 0, none⟩)) :: (.pointer (some ⟨g4, 1, none⟩)) :: (.map (some b1)) :: (.int .i64 ((kUs n l).length : Int)) :: (.pointer (some ⟨g4, 0, none⟩)) :: (.pointer (some ⟨g4, 0, none⟩)) :: (.pointer (some ⟨g4, 1, none⟩)) :: (.map (some b1)) :: (.int .i64 ((kUs n l).length : Int)) :: (.tuple #[.pointer (some ⟨g9, 0, none⟩), .int .i64 0]) :: (.pointer (some ⟨g9, 0, none⟩)) :: (.int .i64 0) :: (.pointer (some ⟨g4, 0, none⟩)) :: (.pointer (some ⟨g4, 2, none⟩)) :: (.slice A12 ((ownB n l).length) c13) :: (.int .i64 ((ownB n l).length : Int)) :: (.int .i64 i) :: ((J45 63)) :: ((J45 64)) :: ((J45 65)) :: ((J45 66)) :: ((J45 67)) :: ((J45 68)) :: ((J45 69)) :: ((J45 70)) :: ((J45 71)) :: ((J45 72)) :: ((J45 73)) :: ((J45 74)) :: ((J45 75)) :: ((J45 76)) :: ((J45 77)) :: ((J45 78)) :: ((J45 79)) :: ((J45 80)) :: ((J45 81)) :: ((J45 82)) :: ((J45 83)) :: ((J45 84)) :: ((J45 85)) :: undef :: undef :: undef :: undef :: undef :: undef :: []) ∧ kq = ((ownB n l).length - (i).toNat) ∧ (0 ≤ i) ∧ (i ≤ (ownB n l).length) ∧ (MRep rs_ ((kUs n l).length : Int) Ls_) ∧ (rs_.length = (kUs n l).length) ∧ (MtS Ls_ (kUs n l) (ownB n l) i) ∧ St W (owns []) w' [blk g6 [.pointer (some ⟨g4, 0, none⟩)] 35, blk g4 [.int .i64 n, .map (some b1), .pointer (some ⟨g9, 0, none⟩)] 83, mpl Try.prog 3 3 b1 (kUs n l), row A12 ((ownB n l).length) c13 (cf prC (ownB n l)) 79 2, blk g9 [.slice (some ⟨a9, 0, none⟩) rs_.length cr9, .int .i64 ((kUs n l).length : Int)] 105, row (some ⟨a9, 0, none⟩) rs_.length cr9 (cf cpt rs_) 98 1, many (rsE 113 110 ((kUs n l).length : Int) rs_)]) ((ownB n l).length - ((0 : Int)).toNat) ⟨(fun k_ : Nat => List.getD ((.int .i64 n) :: (.slice Al l.length cl) :: undef :: undef :: (.pointer none) :: (.pointer (some ⟨g6, 0, none⟩)) :: (.slice A12 ((ownB n l).length) c13) :: undef :: ((J15 8)) :: undef :: undef :: (.int .i64 n) :: (.bool false) :: (.bool false) :: (.int .i64 n) :: (.bool false) :: (.bool false) :: undef :: undef :: (.int .i64 n) :: (.map (some b1)) :: (.map (some b1)) :: (.agg #[.int .i64 n, .map (some b1), .pointer none]) :: (.pointer (some ⟨g4, 0, none⟩)) :: (.slice Al l.length cl) :: (.slice A9 l.length c10) :: (.func (.func 53) #[] #[.pointer (some ⟨g6, 0, none⟩)]) :: (.slice A12 ((ownB n l).length) c13) :: (.slice A12 ((ownB n l).length) c13) :: (.int .i64 ((ownB n l).length : Int)) :: (.int .i64 j) :: (.bool false) :: ((J15 32)) :: ((J15 33)) :: ((J15 34)) :: ((J15 35)) :: ((J15 36)) :: ((J15 37)) :: ((J15 38)) :: ((J15 39)) :: ((J15 40)) :: ((J15 41)) :: ((J15 42)) :: (.tuple #[.pointer (some ⟨g9, 0, none⟩), .int .i64 0]) :: (.pointer (some ⟨g4, 0, none⟩)) :: (.pointer (some ⟨g4, 0, none⟩)) :: (.pointer (some ⟨g4, 0, none⟩)) :: (.pointer (some ⟨g4, 1, none⟩)) :: (.map (some b1)) :: (.int .i64 ((kUs n l).length : Int)) :: (.pointer (some ⟨g4, 0, none⟩)) :: (.pointer (some ⟨g4, 0, none⟩)) :: (.pointer (some ⟨g4, 1, none⟩)) :: (.map (some b1)) :: (.int .i64 ((kUs n l).length : Int)) :: (.tuple #[.pointer (some ⟨g9, 0, none⟩), .int .i64 0]) :: (.pointer (some ⟨g9, 0, none⟩)) :: (.int .i64 0) :: (.pointer (some ⟨g4, 0, none⟩)) :: (.pointer (some ⟨g4, 2, none⟩)) :: (.slice A12 ((ownB n l).length) c13) :: (.int .i64 ((ownB n l).length : Int)) :: (.int .i64 0) :: undef :: undef :: undef :: undef :: undef :: undef :: undef :: undef :: undef :: undef :: undef :: undef :: undef :: undef :: undef :: undef :: undef :: undef :: undef :: undef :: undef :: undef :: undef :: undef :: undef :: undef :: undef :: undef :: undef :: []) k_ undef), (0 : Int), rs9, (List.replicate (kUs n l).length ([] : List Int)), congrArg Fr (by kernel_rfl), rfl, by omega, by omega, hR9, hl9, mtS_start _ _, HS⟩ ?_
        clear HS
        intro kq46 a' W47 hrel
        obtain ⟨J45, i, rs_, Ls_, rfl, hk, i0, i1, hRk, hrl, hT, HS⟩ := hrel
        refine wp_seq ?_
        refine wp_region_lit ?_
        by_cases hc48 : i < ((ownB n l).length : Int)
        · skip
          refine ql (.bool true) (by kernel_rfl) (R_bool (p := i < ((ownB n l).length : Int)) (by kernel_rfl) (hc48)) ?_
          refine wpList_nil ?_
          refine x_then ?_
          refine wp_seq ?_
          refine wp_cond_true (by kernel_rfl) ?_
          refine wp_skip ?_
          refine x_then ?_
          refine wp_seq ?_
          refine wp_block ?_
          refine wp_seq ?_
          have hgo := own_gx (n := n) (l := l) i0 (by omega)
          refine wp_region_lit ?_
          obtain ⟨g49, rfl⟩ := St.rsome HS (i := 3) rfl (by omega)
          refine ql (.pointer (some ⟨g49, i.toNat * 2, none⟩)) (by kernel_rfl) (R_index (k := .i64) (g := g49) (n := ((ownB n l).length)) (c := c13) (i := i) (by kernel_rfl) (by kernel_rfl) Try.underlying34 (by kernel_rfl) (by omega) (by omega)) ?_
          refine ql (.agg #[.int .i64 ((gx (ownB n l) i).1), .int .i64 ((gx (ownB n l) i).2)]) (by kernel_rfl) (R_loadN (p := ⟨g49, i.toNat * 2, none⟩) [.int .i64 ((gx (ownB n l) i).1), .int .i64 ((gx (ownB n l) i).2)] (by kernel_rfl) (by kernel_rfl) (by kernel_rfl) (by kernel_rfl) (HS.elem (f := prC) (z := 2) (fun _ => rfl) (i := 3) rfl (gx_eq (by omega) (by omega)))) ?_
          refine kb HS [.int .i64 0, .int .i64 0] 79 (fun g => .pointer (some ⟨g, 0, none⟩)) (by kernel_rfl) (by kernel_rfl) ?_
          intro g50 W51 H_
          replace HS : St W (owns []) W51 [blk g50 [.int .i64 0, .int .i64 0] 79, blk g6 [.pointer (some ⟨g4, 0, none⟩)] 35, blk g4 [.int .i64 n, .map (some b1), .pointer (some ⟨g9, 0, none⟩)] 83, mpl Try.prog 3 3 b1 (kUs n l), row (some ⟨g49, 0, none⟩) ((ownB n l).length) c13 (cf prC (ownB n l)) 79 2, blk g9 [.slice (some ⟨a9, 0, none⟩) rs_.length cr9, .int .i64 ((kUs n l).length : Int)] 105, row (some ⟨a9, 0, none⟩) rs_.length cr9 (cf cpt rs_) 98 1, many (rsE 113 110 ((kUs n l).length : Int) rs_)] := H_
          clear H_
          refine ks (v := .agg #[.int .i64 ((gx (ownB n l) i).1), .int .i64 ((gx (ownB n l) i).2)]) HS 0 rfl (0) [.int .i64 ((gx (ownB n l) i).1), .int .i64 ((gx (ownB n l) i).2)] (by kernel_rfl) (by kernel_rfl) (by kernel_rfl) (by kernel_rfl) (by kernel_rfl) (one_ (by kernel_rfl)) (Nat.le_of_ble_eq_true rfl) rfl ?_
          intro W52 H_
          replace HS : St W (owns []) W52 [blk g50 [.int .i64 ((gx (ownB n l) i).1), .int .i64 ((gx (ownB n l) i).2)] 79, blk g6 [.pointer (some ⟨g4, 0, none⟩)] 35, blk g4 [.int .i64 n, .map (some b1), .pointer (some ⟨g9, 0, none⟩)] 83, mpl Try.prog 3 3 b1 (kUs n l), row (some ⟨g49, 0, none⟩) ((ownB n l).length) c13 (cf prC (ownB n l)) 79 2, blk g9 [.slice (some ⟨a9, 0, none⟩) rs_.length cr9, .int .i64 ((kUs n l).length : Int)] 105, row (some ⟨a9, 0, none⟩) rs_.length cr9 (cf cpt rs_) 98 1, many (rsE 113 110 ((kUs n l).length : Int) rs_)] := H_
          clear H_
          refine wpList_nil ?_
          refine x_then ?_
          replace HS : St W (owns []) W52 [blk g9 [.slice (some ⟨a9, 0, none⟩) rs_.length cr9, .int .i64 ((kUs n l).length : Int)] 105, row (some ⟨a9, 0, none⟩) rs_.length cr9 (cf cpt rs_) 98 1, many (rsE 113 110 ((kUs n l).length : Int) rs_), blk g50 [.int .i64 ((gx (ownB n l) i).1), .int .i64 ((gx (ownB n l) i).2)] 79, blk g6 [.pointer (some ⟨g4, 0, none⟩)] 35, blk g4 [.int .i64 n, .map (some b1), .pointer (some ⟨g9, 0, none⟩)] 83, mpl Try.prog 3 3 b1 (kUs n l), row (some ⟨g49, 0, none⟩) ((ownB n l).length) c13 (cf prC (ownB n l)) 79 2] := HS.perm (perm_ [5, 6, 7, 0, 1, 2, 3, 4] (by kernel_rfl) rfl)
          have hp1 := plv_rng hgo.2.2.1
          have hp2 := plv_rng hgo.2.2.2
          refine rg_still HS 18 (by kernel_rfl) (by kernel_rfl) ?_
          intro W53 H_ HK_
          simp only [List.take_succ_cons, List.take_zero, List.drop_succ_cons, List.drop_zero]
          replace HS : St W (owns []) W53 [blk g9 [.slice (some ⟨a9, 0, none⟩) rs_.length cr9, .int .i64 ((kUs n l).length : Int)] 105, row (some ⟨a9, 0, none⟩) rs_.length cr9 (cf cpt rs_) 98 1, many (rsE 113 110 ((kUs n l).length : Int) rs_), blk g50 [.int .i64 ((gx (ownB n l) i).1), .int .i64 ((gx (ownB n l) i).2)] 79, blk g6 [.pointer (some ⟨g4, 0, none⟩)] 35, blk g4 [.int .i64 n, .map (some b1), .pointer (some ⟨g9, 0, none⟩)] 83, mpl Try.prog 3 3 b1 (kUs n l), row (some ⟨g49, 0, none⟩) ((ownB n l).length) c13 (cf prC (ownB n l)) 79 2] := H_
          clear H_
          clear HK_
          refine qs (.pointer (some ⟨g4, 0, none⟩)) (by kernel_rfl) (R_load (p := ⟨g6, 0, none⟩) (by kernel_rfl) (by kernel_rfl) (by kernel_rfl) (HS.cell (i := 4) (j := 0) rfl rfl)) ?_
          refine qs (.pointer (some ⟨g4, 0, none⟩)) (by kernel_rfl) (by kernel_rfl) ?_
          refine qs (.pointer (some ⟨g4, 2, none⟩)) (by kernel_rfl) (by kernel_rfl) ?_
          refine qs (.pointer (some ⟨g9, 0, none⟩)) (by kernel_rfl) (R_load (p := ⟨g4, 2, none⟩) (by kernel_rfl) (by kernel_rfl) (by kernel_rfl) (HS.cell (i := 5) (j := 2) rfl rfl)) ?_
          refine qs (.pointer (some ⟨g4, 0, none⟩)) (by kernel_rfl) (R_load (p := ⟨g6, 0, none⟩) (by kernel_rfl) (by kernel_rfl) (by kernel_rfl) (HS.cell (i := 4) (j := 0) rfl rfl)) ?_
          refine qs (.pointer (some ⟨g4, 0, none⟩)) (by kernel_rfl) (by kernel_rfl) ?_
          refine qs (.pointer (some ⟨g4, 1, none⟩)) (by kernel_rfl) (by kernel_rfl) ?_
          refine qs (.map (some b1)) (by kernel_rfl) (R_load (p := ⟨g4, 1, none⟩) (by kernel_rfl) (by kernel_rfl) (by kernel_rfl) (HS.cell (i := 5) (j := 1) rfl rfl)) ?_
          refine qs (.pointer (some ⟨g50, 0, none⟩)) (by kernel_rfl) (by kernel_rfl) ?_
          refine qs (.int .i64 ((gx (ownB n l) i).1)) (by kernel_rfl) (R_load (p := ⟨g50, 0, none⟩) (by kernel_rfl) (by kernel_rfl) (by kernel_rfl) (HS.cell (i := 3) (j := 0) rfl rfl)) ?_
          refine qs (.int .i64 (plv (kUs n l) ((gx (ownB n l) i).1))) (by kernel_rfl) (R_lookP (b := b1) (us := (kUs n l)) (i := (gx (ownB n l) i).1) (HS.get (i := 6) rfl) (Maps.int_keyed Try.underlying3) Try.underlying80 Try.underlying3 (by kernel_rfl) (by kernel_rfl) (by kernel_rfl) (Maps.keyOf_int_mk Try.underlying3 (WalkArith.wf_i64 (by omega)))) ?_
          refine qs (.pointer (some ⟨g4, 0, none⟩)) (by kernel_rfl) (R_load (p := ⟨g6, 0, none⟩) (by kernel_rfl) (by kernel_rfl) (by kernel_rfl) (HS.cell (i := 4) (j := 0) rfl rfl)) ?_
          refine qs (.pointer (some ⟨g4, 0, none⟩)) (by kernel_rfl) (by kernel_rfl) ?_
          refine qs (.pointer (some ⟨g4, 1, none⟩)) (by kernel_rfl) (by kernel_rfl) ?_
          refine qs (.map (some b1)) (by kernel_rfl) (R_load (p := ⟨g4, 1, none⟩) (by kernel_rfl) (by kernel_rfl) (by kernel_rfl) (HS.cell (i := 5) (j := 1) rfl rfl)) ?_
          refine qs (.pointer (some ⟨g50, 1, none⟩)) (by kernel_rfl) (by kernel_rfl) ?_
          refine qs (.int .i64 ((gx (ownB n l) i).2)) (by kernel_rfl) (R_load (p := ⟨g50, 1, none⟩) (by kernel_rfl) (by kernel_rfl) (by kernel_rfl) (HS.cell (i := 3) (j := 1) rfl rfl)) ?_
          refine qs (.int .i64 (plv (kUs n l) ((gx (ownB n l) i).2))) (by kernel_rfl) (R_lookP (b := b1) (us := (kUs n l)) (i := (gx (ownB n l) i).2) (HS.get (i := 6) rfl) (Maps.int_keyed Try.underlying3) Try.underlying80 Try.underlying3 (by kernel_rfl) (by kernel_rfl) (by kernel_rfl) (Maps.keyOf_int_mk Try.underlying3 (WalkArith.wf_i64 (by omega)))) ?_
          refine wpStill_nil ?_
          refine qc (f := 57) (args := #[.pointer (some ⟨g9, 0, none⟩), .int .i64 (plv (kUs n l) ((gx (ownB n l) i).1)), .int .i64 (plv (kUs n l) ((gx (ownB n l) i).2))]) (by kernel_rfl) (R_call #[.pointer (some ⟨g9, 0, none⟩), .int .i64 (plv (kUs n l) ((gx (ownB n l) i).1)), .int .i64 (plv (kUs n l) ((gx (ownB n l) i).2))] Try.func57 (by kernel_rfl) (by kernel_rfl) (by kernel_rfl)) ?_
          refine (madd g9 cr9 (some ⟨a9, 0, none⟩) ((kUs n l).length : Int) rs_ Ls_ (plv (kUs n l) ((gx (ownB n l) i).1)) (plv (kUs n l) ((gx (ownB n l) i).2)) _ _ (St.focus (F := [blk g9 [.slice (some ⟨a9, 0, none⟩) rs_.length cr9, .int .i64 ((kUs n l).length : Int)] 105, row (some ⟨a9, 0, none⟩) rs_.length cr9 (cf cpt rs_) 98 1, many (rsE 113 110 ((kUs n l).length : Int) rs_)]) HS) hRk (by omega) (by omega)).mono ?_
          rintro e W56 ⟨rs54, rfl, H_, hR55, hlrs54⟩
          refine ⟨_, rfl, ?_⟩
          replace HS : St W (owns []) W56 [blk g9 [.slice (some ⟨a9, 0, none⟩) rs54.length cr9, .int .i64 ((kUs n l).length : Int)] 105, row (some ⟨a9, 0, none⟩) rs54.length cr9 (cf cpt rs54) 98 1, many (rsE 113 110 ((kUs n l).length : Int) rs54), blk g50 [.int .i64 ((gx (ownB n l) i).1), .int .i64 ((gx (ownB n l) i).2)] 79, blk g6 [.pointer (some ⟨g4, 0, none⟩)] 35, blk g4 [.int .i64 n, .map (some b1), .pointer (some ⟨g9, 0, none⟩)] 83, mpl Try.prog 3 3 b1 (kUs n l), row (some ⟨g49, 0, none⟩) ((ownB n l).length) c13 (cf prC (ownB n l)) 79 2] := HS.join (F := [blk g9 [.slice (some ⟨a9, 0, none⟩) rs_.length cr9, .int .i64 ((kUs n l).length : Int)] 105, row (some ⟨a9, 0, none⟩) rs_.length cr9 (cf cpt rs_) 98 1, many (rsE 113 110 ((kUs n l).length : Int) rs_)]) (G := [blk g9 [.slice (some ⟨a9, 0, none⟩) rs54.length cr9, .int .i64 ((kUs n l).length : Int)] 105, row (some ⟨a9, 0, none⟩) rs54.length cr9 (cf cpt rs54) 98 1, many (rsE 113 110 ((kUs n l).length : Int) rs54)]) H_
          clear H_
          refine wpList_nil ?_
          refine x_inb ?_
          refine x_then ?_
          refine wp_region_lit ?_
          refine ql (.int .i64 (i + 1)) (by kernel_rfl) (R_int (by kernel_rfl) (w64 (by omega))) ?_
          refine ql (.int .i64 (i + 1)) (by kernel_rfl) (by kernel_rfl) ?_
          refine wpList_nil ?_
          replace HS : St W (owns []) W56 [blk g6 [.pointer (some ⟨g4, 0, none⟩)] 35, blk g4 [.int .i64 n, .map (some b1), .pointer (some ⟨g9, 0, none⟩)] 83, mpl Try.prog 3 3 b1 (kUs n l), row (some ⟨g49, 0, none⟩) ((ownB n l).length) c13 (cf prC (ownB n l)) 79 2, blk g9 [.slice (some ⟨a9, 0, none⟩) rs54.length cr9, .int .i64 ((kUs n l).length : Int)] 105, row (some ⟨a9, 0, none⟩) rs54.length cr9 (cf cpt rs54) 98 1, many (rsE 113 110 ((kUs n l).length : Int) rs54)] := St.tail (F := [blk g50 [.int .i64 ((gx (ownB n l) i).1), .int .i64 ((gx (ownB n l) i).2)] 79]) (HS.perm (perm_ [3, 4, 5, 6, 7, 0, 1, 2] (by kernel_rfl) rfl))
          refine x_then ?_
          exact ⟨(ownB n l).length - ((i + 1)).toNat, by omega, (fun k_ : Nat => List.getD ((.int .i64 n) :: (.slice Al l.length cl) :: undef :: undef :: (.pointer none) :: (.pointer (some ⟨g6, 0, none⟩)) :: (.slice (some ⟨g49, 0, none⟩) ((ownB n l).length) c13) :: undef :: ((J15 8)) :: undef :: (.pointer (some ⟨g50, 0, none⟩)) :: (.int .i64 n) :: (.bool false) :: (.bool false) :: (.int .i64 n) :: (.bool false) :: (.bool false) :: undef :: undef :: (.int .i64 n) :: (.map (some b1)) :: (.map (some b1)) :: (.agg #[.int .i64 n, .map (some b1), .pointer none]) :: (.pointer (some ⟨g4, 0, none⟩)) :: (.slice Al l.length cl) :: (.slice A9 l.length c10) :: (.func (.func 53) #[] #[.pointer (some ⟨g6, 0, none⟩)]) :: (.slice (some ⟨g49, 0, none⟩) ((ownB n l).length) c13) :: (.slice (some ⟨g49, 0, none⟩) ((ownB n l).length) c13) :: (.int .i64 ((ownB n l).length : Int)) :: (.int .i64 j) :: (.bool false) :: ((J15 32)) :: ((J15 33)) :: ((J15 34)) :: ((J15 35)) :: ((J15 36)) :: ((J15 37)) :: ((J15 38)) :: ((J15 39)) :: ((J15 40)) :: ((J15 41)) :: ((J15 42)) :: (.tuple #[.pointer (some ⟨g9, 0, none⟩), .int .i64 0]) :: (.pointer (some ⟨g4, 0, none⟩)) :: (.pointer (some ⟨g4, 0, none⟩)) :: (.pointer (some ⟨g4, 0, none⟩)) :: (.pointer (some ⟨g4, 1, none⟩)) :: (.map (some b1)) :: (.int .i64 ((kUs n l).length : Int)) :: (.pointer (some ⟨g4, 0, none⟩)) :: (.pointer (some ⟨g4, 0, none⟩)) :: (.pointer (some ⟨g4, 1, none⟩)) :: (.map (some b1)) :: (.int .i64 ((kUs n l).length : Int)) :: (.tuple #[.pointer (some ⟨g9, 0, none⟩), .int .i64 0]) :: (.pointer (some ⟨g9, 0, none⟩)) :: (.int .i64 0) :: (.pointer (some ⟨g4, 0, none⟩)) :: (.pointer (some ⟨g4, 2, none⟩)) :: (.slice (some ⟨g49, 0, none⟩) ((ownB n l).length) c13) :: (.int .i64 ((ownB n l).length : Int)) :: (.int .i64 (i + 1)) :: (.bool true) :: (.pointer (some ⟨g49, i.toNat * 2, none⟩)) :: (.agg #[.int .i64 ((gx (ownB n l) i).1), .int .i64 ((gx (ownB n l) i).2)]) :: (.pointer (some ⟨g4, 0, none⟩)) :: (.pointer (some ⟨g4, 0, none⟩)) :: (.pointer (some ⟨g4, 2, none⟩)) :: (.pointer (some ⟨g9, 0, none⟩)) :: (.pointer (some ⟨g4, 0, none⟩)) :: (.pointer (some ⟨g4, 0, none⟩)) :: (.pointer (some ⟨g4, 1, none⟩)) :: (.map (some b1)) :: (.pointer (some ⟨g50, 0, none⟩)) :: (.int .i64 ((gx (ownB n l) i).1)) :: (.int .i64 (plv (kUs n l) ((gx (ownB n l) i).1))) :: (.pointer (some ⟨g4, 0, none⟩)) :: (.pointer (some ⟨g4, 0, none⟩)) :: (.pointer (some ⟨g4, 1, none⟩)) :: (.map (some b1)) :: (.pointer (some ⟨g50, 1, none⟩)) :: (.int .i64 ((gx (ownB n l) i).2)) :: (.int .i64 (plv (kUs n l) ((gx (ownB n l) i).2))) :: (.bool (addMB Ls_ ((kUs n l).length : Int) (plv (kUs n l) ((gx (ownB n l) i).1)) (plv (kUs n l) ((gx (ownB n l) i).2)))) :: (.int .i64 (i + 1)) :: undef :: undef :: undef :: undef :: undef :: undef :: []) k_ undef), (i + 1), rs54, (addM Ls_ ((kUs n l).length : Int) (plv (kUs n l) ((gx (ownB n l) i).1)) (plv (kUs n l) ((gx (ownB n l) i).2))), congrArg Fr (by kernel_rfl), rfl, by omega, by omega, hR55, (by omega), mtS_step hT i0 (by omega), HS⟩
        · skip
          refine ql (.bool false) (by kernel_rfl) (R_nbool (p := i < ((ownB n l).length : Int)) (by kernel_rfl) (hc48)) ?_
          refine wpList_nil ?_
          refine x_then ?_
          refine wp_seq ?_
          refine wp_cond_false (by kernel_rfl) ?_
          refine wp_exit ?_
          refine x_thenE ?_
          refine x_thenE ?_
          refine x_hit ?_
          refine x_then ?_
          refine wp_seq ?_
          refine wp_region_lit ?_
          refine ql (.pointer (some ⟨g4, 0, none⟩)) (by kernel_rfl) (R_load (p := ⟨g6, 0, none⟩) (by kernel_rfl) (by kernel_rfl) (by kernel_rfl) (HS.cell (i := 0) (j := 0) rfl rfl)) ?_
          refine ql (.pointer (some ⟨g4, 0, none⟩)) (by kernel_rfl) (by kernel_rfl) ?_
          refine ql (.pointer (some ⟨g4, 2, none⟩)) (by kernel_rfl) (by kernel_rfl) ?_
          refine ql (.pointer (some ⟨g9, 0, none⟩)) (by kernel_rfl) (R_load (p := ⟨g4, 2, none⟩) (by kernel_rfl) (by kernel_rfl) (by kernel_rfl) (HS.cell (i := 1) (j := 2) rfl rfl)) ?_
          refine qc (f := 58) (args := #[.pointer (some ⟨g9, 0, none⟩)]) (by kernel_rfl) (R_call #[.pointer (some ⟨g9, 0, none⟩)] Try.func58 (by kernel_rfl) (by kernel_rfl) (by kernel_rfl)) ?_
          replace HS : St W (owns []) W47 [blk g9 [.slice (some ⟨a9, 0, none⟩) rs_.length cr9, .int .i64 ((kUs n l).length : Int)] 105, row (some ⟨a9, 0, none⟩) rs_.length cr9 (cf cpt rs_) 98 1, many (rsE 113 110 ((kUs n l).length : Int) rs_), blk g6 [.pointer (some ⟨g4, 0, none⟩)] 35, blk g4 [.int .i64 n, .map (some b1), .pointer (some ⟨g9, 0, none⟩)] 83, mpl Try.prog 3 3 b1 (kUs n l), row A12 ((ownB n l).length) c13 (cf prC (ownB n l)) 79 2] := HS.perm (perm_ [4, 5, 6, 0, 1, 2, 3] (by kernel_rfl) rfl)
          refine (mclose g9 cr9 (some ⟨a9, 0, none⟩) ((kUs n l).length : Int) rs_ Ls_ _ _ (St.focus (F := [blk g9 [.slice (some ⟨a9, 0, none⟩) rs_.length cr9, .int .i64 ((kUs n l).length : Int)] 105, row (some ⟨a9, 0, none⟩) rs_.length cr9 (cf cpt rs_) 98 1, many (rsE 113 110 ((kUs n l).length : Int) rs_)]) HS) hRk (by omega) (by omega) (by omega)).mono ?_
          rintro e W57 ⟨rs8, rfl, H_, hR8, hl8⟩
          refine ⟨_, rfl, ?_⟩
          replace HS : St W (owns []) W57 [blk g9 [.slice (some ⟨a9, 0, none⟩) rs8.length cr9, .int .i64 ((kUs n l).length : Int)] 105, row (some ⟨a9, 0, none⟩) rs8.length cr9 (cf cpt rs8) 98 1, many (rsE 113 110 ((kUs n l).length : Int) rs8), blk g6 [.pointer (some ⟨g4, 0, none⟩)] 35, blk g4 [.int .i64 n, .map (some b1), .pointer (some ⟨g9, 0, none⟩)] 83, mpl Try.prog 3 3 b1 (kUs n l), row A12 ((ownB n l).length) c13 (cf prC (ownB n l)) 79 2] := HS.join (F := [blk g9 [.slice (some ⟨a9, 0, none⟩) rs_.length cr9, .int .i64 ((kUs n l).length : Int)] 105, row (some ⟨a9, 0, none⟩) rs_.length cr9 (cf cpt rs_) 98 1, many (rsE 113 110 ((kUs n l).length : Int) rs_)]) (G := [blk g9 [.slice (some ⟨a9, 0, none⟩) rs8.length cr9, .int .i64 ((kUs n l).length : Int)] 105, row (some ⟨a9, 0, none⟩) rs8.length cr9 (cf cpt rs8) 98 1, many (rsE 113 110 ((kUs n l).length : Int) rs8)]) H_
          clear H_
          refine wpList_nil ?_
          refine x_then ?_
          refine wp_seq ?_
          refine wp_region_lit ?_
          refine ql (.pointer (some ⟨g4, 0, none⟩)) (by kernel_rfl) (R_load (p := ⟨g6, 0, none⟩) (by kernel_rfl) (by kernel_rfl) (by kernel_rfl) (HS.cell (i := 3) (j := 0) rfl rfl)) ?_
          refine ql (.pointer (some ⟨g4, 0, none⟩)) (by kernel_rfl) (by kernel_rfl) ?_
          refine wpList_nil ?_
          refine x_then ?_
          refine wp_ret ?_
          refine ret_ (.pointer (some ⟨g4, 0, none⟩)) (by kernel_rfl) ?_
          replace HS : St W (owns []) W57 [blk g4 [.int .i64 n, .map (some b1), .pointer (some ⟨g9, 0, none⟩)] 83, mpl Try.prog 3 3 b1 (kUs n l), blk g9 [.slice (some ⟨a9, 0, none⟩) rs8.length cr9, .int .i64 ((kUs n l).length : Int)] 105, row (some ⟨a9, 0, none⟩) rs8.length cr9 (cf cpt rs8) 98 1, many (rsE 113 110 ((kUs n l).length : Int) rs8)] := St.tail (F := [blk g6 [.pointer (some ⟨g4, 0, none⟩)] 35, row A12 ((ownB n l).length) c13 (cf prC (ownB n l)) 79 2]) (HS.perm (perm_ [3, 6, 4, 5, 0, 1, 2] (by kernel_rfl) rfl))
          have hLs : Ls_ = kMat (kUs n l) (ownB n l) := mtS_end hT (by omega)
          exact ⟨g4, ⟨b1, g9, cr9, (some ⟨a9, 0, none⟩), rs8, kUs n l⟩, rfl, St.close1 HS, ⟨rfl, by rw [hLs] at hR8; exact hR8⟩⟩
    · skip
      refine t_e2 (n := 10) 9 (.map (some b1)) rfl (by kernel_rfl) (R_load (p := ⟨g4, 1, none⟩) (by kernel_rfl) (by kernel_rfl) (by kernel_rfl) (HS.cell (i := 0) (j := 1) rfl rfl)) HK ?_
      refine t_e (n := 9) 4 (.map (some b1)) rfl (by kernel_rfl) (by kernel_rfl) (R_load (p := ⟨g4, 1, none⟩) (by kernel_rfl) (by kernel_rfl) (by kernel_rfl) (HS.cell (i := 0) (j := 1) rfl rfl)) HK ?_
      refine t_e (n := 8) 5 (.int .i64 ((kUs n l).length : Int)) rfl (by kernel_rfl) (by kernel_rfl) (R_lenP (us := (kUs n l)) (HS.get (i := 2) rfl) Try.underlying80 (by kernel_rfl)) HK ?_
      refine t_e (n := 7) 10 (.int .i64 ((kUs n l).length : Int)) rfl (by kernel_rfl) (by kernel_rfl) (R_lenP (us := (kUs n l)) (HS.get (i := 2) rfl) Try.underlying80 (by kernel_rfl)) HK ?_
      refine t_c (n := 6) 11 (f := 56) (args := #[.int .i64 ((kUs n l).length : Int), .int .i64 ((kUs n l).length : Int)]) rfl (by kernel_rfl) (by kernel_rfl) (R_call #[.int .i64 ((kUs n l).length : Int), .int .i64 ((kUs n l).length : Int)] Try.func56 (by kernel_rfl) (by kernel_rfl) (by kernel_rfl)) ?_
      refine (mnew_ok ((kUs n l).length : Int) ((kUs n l).length : Int) _ (by omega) (by omega) (by omega) (by omega)).mono ?_
      rintro e W58 ⟨g9, a9, cr9, rs9, rfl, H_, hq9⟩
      rw [Int.toNat_natCast] at hq9
      have hR9 : MRep rs9 ((kUs n l).length : Int) (List.replicate (kUs n l).length ([] : List Int)) := by rw [hq9]; exact MRep.zero (by omega)
      have hl9 : rs9.length = (kUs n l).length := by rw [hq9, List.length_replicate]
      refine ⟨_, rfl, HK.tr H_.kept.nil, ?_⟩
      replace HK := HK.tr H_.kept.nil
      replace HS : St W (owns []) W58 [blk g9 [.slice (some ⟨a9, 0, none⟩) rs9.length cr9, .int .i64 ((kUs n l).length : Int)] 105, row (some ⟨a9, 0, none⟩) rs9.length cr9 (cf cpt rs9) 98 1, many (rsE 113 110 ((kUs n l).length : Int) rs9), blk g4 [.int .i64 n, .map (some b1), .pointer none] 83, blk g6 [.pointer (some ⟨g4, 0, none⟩)] 35, mpl Try.prog 3 3 b1 (kUs n l), row A12 ((ownB n l).length) c13 (cf prC (ownB n l)) 79 2] := HS.join (F := []) (G := [blk g9 [.slice (some ⟨a9, 0, none⟩) rs9.length cr9, .int .i64 ((kUs n l).length : Int)] 105, row (some ⟨a9, 0, none⟩) rs9.length cr9 (cf cpt rs9) 98 1, many (rsE 113 110 ((kUs n l).length : Int) rs9)]) H_
      clear H_
      refine t_q (n := 5) 12 (.tuple #[.pointer (some ⟨g9, 0, none⟩), .int .i64 0]) rfl (by kernel_rfl) (by kernel_rfl) (fun _ _ _ h => h) (fun w' hk => (by kernel_rfl)) HK ?_
      refine t_q (n := 4) 13 (.pointer (some ⟨g9, 0, none⟩)) rfl (by kernel_rfl) (by kernel_rfl) (fun _ _ _ h => h) (fun w' hk => (by kernel_rfl)) HK ?_
      refine t_q (n := 3) 14 (.int .i64 0) rfl (by kernel_rfl) (by kernel_rfl) (fun _ _ _ h => h) (fun w' hk => (by kernel_rfl)) HK ?_
      refine t_q (n := 2) 15 (.pointer (some ⟨g4, 0, none⟩)) rfl (by kernel_rfl) (by kernel_rfl) (fun _ _ _ h => h) (fun w' hk => (by kernel_rfl)) HK ?_
      refine t_q (n := 1) 16 (.pointer (some ⟨g4, 2, none⟩)) rfl (by kernel_rfl) (by kernel_rfl) (fun _ _ _ h => h) (fun w' hk => (by kernel_rfl)) HK ?_
      obtain ⟨W59, hrun_, H_, hk_⟩ := ex_ks (P := Try.prog) (ty := 0) (ps := "decl.go:29") (af := #[{ on := 16, ground := Go.Ground.data }, { on := 13, ground := Go.Ground.data }, { on := 11, ground := Go.Ground.chain }, { on := 0, ground := Go.Ground.phase }, { on := 1, ground := Go.Ground.phase }, { on := 2, ground := Go.Ground.phase }, { on := 3, ground := Go.Ground.phase }, { on := 4, ground := Go.Ground.phase }, { on := 5, ground := Go.Ground.phase }, { on := 6, ground := Go.Ground.phase }, { on := 7, ground := Go.Ground.phase }, { on := 8, ground := Go.Ground.phase }, { on := 9, ground := Go.Ground.phase }, { on := 10, ground := Go.Ground.phase }, { on := 11, ground := Go.Ground.phase }, { on := 12, ground := Go.Ground.phase }, { on := 13, ground := Go.Ground.phase }, { on := 14, ground := (Go.Ground.textOnly Go.Departure.lateStores) }]) (gd := none) (t := 81) (x := (Go.Operand.tmp 59)) (y := (Go.Operand.tmp 56)) (v := .pointer (some ⟨g9, 0, none⟩)) HS 3 rfl (2) [.pointer (some ⟨g9, 0, none⟩)] (by kernel_rfl) (by kernel_rfl) (by kernel_rfl) (by kernel_rfl) (one_ (by kernel_rfl)) (Nat.le_of_ble_eq_true rfl)
      replace HK := HK.trans hk_ (fun _ h_ => .inl (blk_own h_))
      refine t_s (n := 0) 17 rfl (by kernel_rfl) (by kernel_rfl) hrun_ HK ?_
      clear hk_ hrun_
      replace HS : St W (owns []) W59 [blk g9 [.slice (some ⟨a9, 0, none⟩) rs9.length cr9, .int .i64 ((kUs n l).length : Int)] 105, row (some ⟨a9, 0, none⟩) rs9.length cr9 (cf cpt rs9) 98 1, many (rsE 113 110 ((kUs n l).length : Int) rs9), blk g4 [.int .i64 n, .map (some b1), .pointer (some ⟨g9, 0, none⟩)] 83, blk g6 [.pointer (some ⟨g4, 0, none⟩)] 35, mpl Try.prog 3 3 b1 (kUs n l), row A12 ((ownB n l).length) c13 (cf prC (ownB n l)) 79 2] := H_
      clear H_
      refine t_done (by kernel_rfl) ?_
      clear HV HK
      refine x_then ?_
      refine wp_seq ?_
      refine wp_seq ?_
      refine wp_region_lit ?_
      refine ql (.slice A12 ((ownB n l).length) c13) (by kernel_rfl) (by kernel_rfl) ?_
      refine ql (.int .i64 ((ownB n l).length : Int)) (by kernel_rfl) (by kernel_rfl) ?_
      refine ql (.int .i64 0) (by kernel_rfl) (by kernel_rfl) ?_
      refine wpList_nil ?_
      refine x_then ?_
      refine wp_block ?_
      replace HS : St W (owns []) W59 [blk g6 [.pointer (some ⟨g4, 0, none⟩)] 35, blk g4 [.int .i64 n, .map (some b1), .pointer (some ⟨g9, 0, none⟩)] 83, mpl Try.prog 3 3 b1 (kUs n l), row A12 ((ownB n l).length) c13 (cf prC (ownB n l)) 79 2, blk g9 [.slice (some ⟨a9, 0, none⟩) rs9.length cr9, .int .i64 ((kUs n l).length : Int)] 105, row (some ⟨a9, 0, none⟩) rs9.length cr9 (cf cpt rs9) 98 1, many (rsE 113 110 ((kUs n l).length : Int) rs9)] := HS.perm (perm_ [4, 3, 5, 6, 0, 1, 2] (by kernel_rfl) rfl)
      refine wp_loop_ghost (fun kq a' w' => ∃ (J60 : Nat → Value) (i : Int) (rs_ : List Rw) (Ls_ : List (List Int)) , a' = Fr ((.int .i64 n) :: (.slice Al l.length cl) :: undef :: undef :: (.pointer none) :: (.pointer (some ⟨g6, 0, none⟩)) :: (.slice A12 ((ownB n l).length) c13) :: undef :: ((J15 8)) :: undef :: ((J60 10)) :: (.int .i64 n) :: (.bool false) :: (.bool false) :: (.int .i64 n) :: (.bool false) :: (.bool false) :: undef :: undef :: (.int .i64 n) :: (.map (some b1)) :: (.map (some b1)) :: (.agg #[.int .i64 n, .map (some b1), .pointer none]) :: (.pointer (some ⟨g4, 0, none⟩)) :: (.slice Al l.length cl) :: (.slice A9 l.length c10) :: (.func (.func 53) #[] #[.pointer (some ⟨g6, 0, none⟩)]) :: (.slice A12 ((ownB n l).length) c13) :: (.slice A12 ((ownB n l).length) c13) :: (.int .i64 ((ownB n l).length : Int)) :: (.int .i64 j) :: (.bool false) :: ((J15 32)) :: ((J15 33)) :: ((J15 34)) :: ((J15 35)) :: ((J15 36)) :: ((J15 37)) :: ((J15 38)) :: ((J15 39)) :: ((J15 40)) :: ((J15 41)) :: ((J15 42)) :: (.tuple #[.pointer (some ⟨g9, 0, none⟩), .int .i64 0]) :: (.pointer (some ⟨g4, 0, none⟩)) :: (.pointer (some ⟨g4, 0, none⟩)) :: (.pointer (some ⟨g4, 0, none⟩)) :: (.pointer (some ⟨g4, 1, none⟩)) :: (.map (some b1)) :: (.int .i64 ((kUs n l).length : Int)) :: (.pointer (some ⟨g4, 0, none⟩)) :: (.pointer (some ⟨g4, 0, none⟩)) :: (.pointer (some ⟨g4, 1, none⟩)) :: (.map (some b1)) :: (.int .i64 ((kUs n l).length : Int)) :: (.tuple #[.pointer (some ⟨g9, 0, none⟩), .int .i64 0]) :: (.pointer (some ⟨g9, 0, none⟩)) :: (.int .i64 0) :: (.pointer (some ⟨g4, 0, none⟩)) :: (.pointer (some ⟨g4, 2, none⟩)) :: (.slice A12 ((ownB n l).length) c13) :: (.int .i64 ((ownB n l).length : Int)) :: (.int .i64 i) :: ((J60 63)) :: ((J60 64)) :: ((J60 65)) :: ((J60 66)) :: ((J60 67)) :: ((J60 68)) :: ((J60 69)) :: ((J60 70)) :: ((J60 71)) :: ((J60 72)) :: ((J60 73)) :: ((J60 74)) :: ((J60 75)) :: ((J60 76)) :: ((J60 77)) :: ((J60 78)) :: ((J60 79)) :: ((J60 80)) :: ((J60 81)) :: ((J60 82)) :: ((J60 83)) :: ((J60 84)) :: ((J60 85)) :: undef :: undef :: undef :: undef :: undef :: undef :: []) ∧ kq = ((ownB n l).length - (i).toNat) ∧ (0 ≤ i) ∧ (i ≤ (ownB n l).length) ∧ (MRep rs_ ((kUs n l).length : Int) Ls_) ∧ (rs_.length = (kUs n l).length) ∧ (MtS Ls_ (kUs n l) (ownB n l) i) ∧ St W (owns []) w' [blk g6 [.pointer (some ⟨g4, 0, none⟩)] 35, blk g4 [.int .i64 n, .map (some b1), .pointer (some ⟨g9, 0, none⟩)] 83, mpl Try.prog 3 3 b1 (kUs n l), row A12 ((ownB n l).length) c13 (cf prC (ownB n l)) 79 2, blk g9 [.slice (some ⟨a9, 0, none⟩) rs_.length cr9, .int .i64 ((kUs n l).length : Int)] 105, row (some ⟨a9, 0, none⟩) rs_.length cr9 (cf cpt rs_) 98 1, many (rsE 113 110 ((kUs n l).length : Int) rs_)]) ((ownB n l).length - ((0 : Int)).toNat) ⟨(fun k_ : Nat => List.getD ((.int .i64 n) :: (.slice Al l.length cl) :: undef :: undef :: (.pointer none) :: (.pointer (some ⟨g6, 0, none⟩)) :: (.slice A12 ((ownB n l).length) c13) :: undef :: ((J15 8)) :: undef :: undef :: (.int .i64 n) :: (.bool false) :: (.bool false) :: (.int .i64 n) :: (.bool false) :: (.bool false) :: undef :: undef :: (.int .i64 n) :: (.map (some b1)) :: (.map (some b1)) :: (.agg #[.int .i64 n, .map (some b1), .pointer none]) :: (.pointer (some ⟨g4, 0, none⟩)) :: (.slice Al l.length cl) :: (.slice A9 l.length c10) :: (.func (.func 53) #[] #[.pointer (some ⟨g6, 0, none⟩)]) :: (.slice A12 ((ownB n l).length) c13) :: (.slice A12 ((ownB n l).length) c13) :: (.int .i64 ((ownB n l).length : Int)) :: (.int .i64 j) :: (.bool false) :: ((J15 32)) :: ((J15 33)) :: ((J15 34)) :: ((J15 35)) :: ((J15 36)) :: ((J15 37)) :: ((J15 38)) :: ((J15 39)) :: ((J15 40)) :: ((J15 41)) :: ((J15 42)) :: (.tuple #[.pointer (some ⟨g9, 0, none⟩), .int .i64 0]) :: (.pointer (some ⟨g4, 0, none⟩)) :: (.pointer (some ⟨g4, 0, none⟩)) :: (.pointer (some ⟨g4, 0, none⟩)) :: (.pointer (some ⟨g4, 1, none⟩)) :: (.map (some b1)) :: (.int .i64 ((kUs n l).length : Int)) :: (.pointer (some ⟨g4, 0, none⟩)) :: (.pointer (some ⟨g4, 0, none⟩)) :: (.pointer (some ⟨g4, 1, none⟩)) :: (.map (some b1)) :: (.int .i64 ((kUs n l).length : Int)) :: (.tuple #[.pointer (some ⟨g9, 0, none⟩), .int .i64 0]) :: (.pointer (some ⟨g9, 0, none⟩)) :: (.int .i64 0) :: (.pointer (some ⟨g4, 0, none⟩)) :: (.pointer (some ⟨g4, 2, none⟩)) :: (.slice A12 ((ownB n l).length) c13) :: (.int .i64 ((ownB n l).length : Int)) :: (.int .i64 0) :: undef :: undef :: undef :: undef :: undef :: undef :: undef :: undef :: undef :: undef :: undef :: undef :: undef :: undef :: undef :: undef :: undef :: undef :: undef :: undef :: undef :: undef :: undef :: undef :: undef :: undef :: undef :: undef :: undef :: []) k_ undef), (0 : Int), rs9, (List.replicate (kUs n l).length ([] : List Int)), congrArg Fr (by kernel_rfl), rfl, by omega, by omega, hR9, hl9, mtS_start _ _, HS⟩ ?_
      clear HS
      intro kq61 a' W62 hrel
      obtain ⟨J60, i, rs_, Ls_, rfl, hk, i0, i1, hRk, hrl, hT, HS⟩ := hrel
      refine wp_seq ?_
      refine wp_region_lit ?_
      by_cases hc63 : i < ((ownB n l).length : Int)
      · skip
        refine ql (.bool true) (by kernel_rfl) (R_bool (p := i < ((ownB n l).length : Int)) (by kernel_rfl) (hc63)) ?_
        refine wpList_nil ?_
        refine x_then ?_
        refine wp_seq ?_
        refine wp_cond_true (by kernel_rfl) ?_
        refine wp_skip ?_
        refine x_then ?_
        refine wp_seq ?_
        refine wp_block ?_
        refine wp_seq ?_
        have hgo := own_gx (n := n) (l := l) i0 (by omega)
        refine wp_region_lit ?_
        obtain ⟨g64, rfl⟩ := St.rsome HS (i := 3) rfl (by omega)
        refine ql (.pointer (some ⟨g64, i.toNat * 2, none⟩)) (by kernel_rfl) (R_index (k := .i64) (g := g64) (n := ((ownB n l).length)) (c := c13) (i := i) (by kernel_rfl) (by kernel_rfl) Try.underlying34 (by kernel_rfl) (by omega) (by omega)) ?_
        refine ql (.agg #[.int .i64 ((gx (ownB n l) i).1), .int .i64 ((gx (ownB n l) i).2)]) (by kernel_rfl) (R_loadN (p := ⟨g64, i.toNat * 2, none⟩) [.int .i64 ((gx (ownB n l) i).1), .int .i64 ((gx (ownB n l) i).2)] (by kernel_rfl) (by kernel_rfl) (by kernel_rfl) (by kernel_rfl) (HS.elem (f := prC) (z := 2) (fun _ => rfl) (i := 3) rfl (gx_eq (by omega) (by omega)))) ?_
        refine kb HS [.int .i64 0, .int .i64 0] 79 (fun g => .pointer (some ⟨g, 0, none⟩)) (by kernel_rfl) (by kernel_rfl) ?_
        intro g65 W66 H_
        replace HS : St W (owns []) W66 [blk g65 [.int .i64 0, .int .i64 0] 79, blk g6 [.pointer (some ⟨g4, 0, none⟩)] 35, blk g4 [.int .i64 n, .map (some b1), .pointer (some ⟨g9, 0, none⟩)] 83, mpl Try.prog 3 3 b1 (kUs n l), row (some ⟨g64, 0, none⟩) ((ownB n l).length) c13 (cf prC (ownB n l)) 79 2, blk g9 [.slice (some ⟨a9, 0, none⟩) rs_.length cr9, .int .i64 ((kUs n l).length : Int)] 105, row (some ⟨a9, 0, none⟩) rs_.length cr9 (cf cpt rs_) 98 1, many (rsE 113 110 ((kUs n l).length : Int) rs_)] := H_
        clear H_
        refine ks (v := .agg #[.int .i64 ((gx (ownB n l) i).1), .int .i64 ((gx (ownB n l) i).2)]) HS 0 rfl (0) [.int .i64 ((gx (ownB n l) i).1), .int .i64 ((gx (ownB n l) i).2)] (by kernel_rfl) (by kernel_rfl) (by kernel_rfl) (by kernel_rfl) (by kernel_rfl) (one_ (by kernel_rfl)) (Nat.le_of_ble_eq_true rfl) rfl ?_
        intro W67 H_
        replace HS : St W (owns []) W67 [blk g65 [.int .i64 ((gx (ownB n l) i).1), .int .i64 ((gx (ownB n l) i).2)] 79, blk g6 [.pointer (some ⟨g4, 0, none⟩)] 35, blk g4 [.int .i64 n, .map (some b1), .pointer (some ⟨g9, 0, none⟩)] 83, mpl Try.prog 3 3 b1 (kUs n l), row (some ⟨g64, 0, none⟩) ((ownB n l).length) c13 (cf prC (ownB n l)) 79 2, blk g9 [.slice (some ⟨a9, 0, none⟩) rs_.length cr9, .int .i64 ((kUs n l).length : Int)] 105, row (some ⟨a9, 0, none⟩) rs_.length cr9 (cf cpt rs_) 98 1, many (rsE 113 110 ((kUs n l).length : Int) rs_)] := H_
        clear H_
        refine wpList_nil ?_
        refine x_then ?_
        replace HS : St W (owns []) W67 [blk g9 [.slice (some ⟨a9, 0, none⟩) rs_.length cr9, .int .i64 ((kUs n l).length : Int)] 105, row (some ⟨a9, 0, none⟩) rs_.length cr9 (cf cpt rs_) 98 1, many (rsE 113 110 ((kUs n l).length : Int) rs_), blk g65 [.int .i64 ((gx (ownB n l) i).1), .int .i64 ((gx (ownB n l) i).2)] 79, blk g6 [.pointer (some ⟨g4, 0, none⟩)] 35, blk g4 [.int .i64 n, .map (some b1), .pointer (some ⟨g9, 0, none⟩)] 83, mpl Try.prog 3 3 b1 (kUs n l), row (some ⟨g64, 0, none⟩) ((ownB n l).length) c13 (cf prC (ownB n l)) 79 2] := HS.perm (perm_ [5, 6, 7, 0, 1, 2, 3, 4] (by kernel_rfl) rfl)
        have hp1 := plv_rng hgo.2.2.1
        have hp2 := plv_rng hgo.2.2.2
        refine rg_still HS 18 (by kernel_rfl) (by kernel_rfl) ?_
        intro W68 H_ HK_
        simp only [List.take_succ_cons, List.take_zero, List.drop_succ_cons, List.drop_zero]
        replace HS : St W (owns []) W68 [blk g9 [.slice (some ⟨a9, 0, none⟩) rs_.length cr9, .int .i64 ((kUs n l).length : Int)] 105, row (some ⟨a9, 0, none⟩) rs_.length cr9 (cf cpt rs_) 98 1, many (rsE 113 110 ((kUs n l).length : Int) rs_), blk g65 [.int .i64 ((gx (ownB n l) i).1), .int .i64 ((gx (ownB n l) i).2)] 79, blk g6 [.pointer (some ⟨g4, 0, none⟩)] 35, blk g4 [.int .i64 n, .map (some b1), .pointer (some ⟨g9, 0, none⟩)] 83, mpl Try.prog 3 3 b1 (kUs n l), row (some ⟨g64, 0, none⟩) ((ownB n l).length) c13 (cf prC (ownB n l)) 79 2] := H_
        clear H_
        clear HK_
        refine qs (.pointer (some ⟨g4, 0, none⟩)) (by kernel_rfl) (R_load (p := ⟨g6, 0, none⟩) (by kernel_rfl) (by kernel_rfl) (by kernel_rfl) (HS.cell (i := 4) (j := 0) rfl rfl)) ?_
        refine qs (.pointer (some ⟨g4, 0, none⟩)) (by kernel_rfl) (by kernel_rfl) ?_
        refine qs (.pointer (some ⟨g4, 2, none⟩)) (by kernel_rfl) (by kernel_rfl) ?_
        refine qs (.pointer (some ⟨g9, 0, none⟩)) (by kernel_rfl) (R_load (p := ⟨g4, 2, none⟩) (by kernel_rfl) (by kernel_rfl) (by kernel_rfl) (HS.cell (i := 5) (j := 2) rfl rfl)) ?_
        refine qs (.pointer (some ⟨g4, 0, none⟩)) (by kernel_rfl) (R_load (p := ⟨g6, 0, none⟩) (by kernel_rfl) (by kernel_rfl) (by kernel_rfl) (HS.cell (i := 4) (j := 0) rfl rfl)) ?_
        refine qs (.pointer (some ⟨g4, 0, none⟩)) (by kernel_rfl) (by kernel_rfl) ?_
        refine qs (.pointer (some ⟨g4, 1, none⟩)) (by kernel_rfl) (by kernel_rfl) ?_
        refine qs (.map (some b1)) (by kernel_rfl) (R_load (p := ⟨g4, 1, none⟩) (by kernel_rfl) (by kernel_rfl) (by kernel_rfl) (HS.cell (i := 5) (j := 1) rfl rfl)) ?_
        refine qs (.pointer (some ⟨g65, 0, none⟩)) (by kernel_rfl) (by kernel_rfl) ?_
        refine qs (.int .i64 ((gx (ownB n l) i).1)) (by kernel_rfl) (R_load (p := ⟨g65, 0, none⟩) (by kernel_rfl) (by kernel_rfl) (by kernel_rfl) (HS.cell (i := 3) (j := 0) rfl rfl)) ?_
        refine qs (.int .i64 (plv (kUs n l) ((gx (ownB n l) i).1))) (by kernel_rfl) (R_lookP (b := b1) (us := (kUs n l)) (i := (gx (ownB n l) i).1) (HS.get (i := 6) rfl) (Maps.int_keyed Try.underlying3) Try.underlying80 Try.underlying3 (by kernel_rfl) (by kernel_rfl) (by kernel_rfl) (Maps.keyOf_int_mk Try.underlying3 (WalkArith.wf_i64 (by omega)))) ?_
        refine qs (.pointer (some ⟨g4, 0, none⟩)) (by kernel_rfl) (R_load (p := ⟨g6, 0, none⟩) (by kernel_rfl) (by kernel_rfl) (by kernel_rfl) (HS.cell (i := 4) (j := 0) rfl rfl)) ?_
        refine qs (.pointer (some ⟨g4, 0, none⟩)) (by kernel_rfl) (by kernel_rfl) ?_
        refine qs (.pointer (some ⟨g4, 1, none⟩)) (by kernel_rfl) (by kernel_rfl) ?_
        refine qs (.map (some b1)) (by kernel_rfl) (R_load (p := ⟨g4, 1, none⟩) (by kernel_rfl) (by kernel_rfl) (by kernel_rfl) (HS.cell (i := 5) (j := 1) rfl rfl)) ?_
        refine qs (.pointer (some ⟨g65, 1, none⟩)) (by kernel_rfl) (by kernel_rfl) ?_
        refine qs (.int .i64 ((gx (ownB n l) i).2)) (by kernel_rfl) (R_load (p := ⟨g65, 1, none⟩) (by kernel_rfl) (by kernel_rfl) (by kernel_rfl) (HS.cell (i := 3) (j := 1) rfl rfl)) ?_
        refine qs (.int .i64 (plv (kUs n l) ((gx (ownB n l) i).2))) (by kernel_rfl) (R_lookP (b := b1) (us := (kUs n l)) (i := (gx (ownB n l) i).2) (HS.get (i := 6) rfl) (Maps.int_keyed Try.underlying3) Try.underlying80 Try.underlying3 (by kernel_rfl) (by kernel_rfl) (by kernel_rfl) (Maps.keyOf_int_mk Try.underlying3 (WalkArith.wf_i64 (by omega)))) ?_
        refine wpStill_nil ?_
        refine qc (f := 57) (args := #[.pointer (some ⟨g9, 0, none⟩), .int .i64 (plv (kUs n l) ((gx (ownB n l) i).1)), .int .i64 (plv (kUs n l) ((gx (ownB n l) i).2))]) (by kernel_rfl) (R_call #[.pointer (some ⟨g9, 0, none⟩), .int .i64 (plv (kUs n l) ((gx (ownB n l) i).1)), .int .i64 (plv (kUs n l) ((gx (ownB n l) i).2))] Try.func57 (by kernel_rfl) (by kernel_rfl) (by kernel_rfl)) ?_
        refine (madd g9 cr9 (some ⟨a9, 0, none⟩) ((kUs n l).length : Int) rs_ Ls_ (plv (kUs n l) ((gx (ownB n l) i).1)) (plv (kUs n l) ((gx (ownB n l) i).2)) _ _ (St.focus (F := [blk g9 [.slice (some ⟨a9, 0, none⟩) rs_.length cr9, .int .i64 ((kUs n l).length : Int)] 105, row (some ⟨a9, 0, none⟩) rs_.length cr9 (cf cpt rs_) 98 1, many (rsE 113 110 ((kUs n l).length : Int) rs_)]) HS) hRk (by omega) (by omega)).mono ?_
        rintro e W71 ⟨rs69, rfl, H_, hR70, hlrs69⟩
        refine ⟨_, rfl, ?_⟩
        replace HS : St W (owns []) W71 [blk g9 [.slice (some ⟨a9, 0, none⟩) rs69.length cr9, .int .i64 ((kUs n l).length : Int)] 105, row (some ⟨a9, 0, none⟩) rs69.length cr9 (cf cpt rs69) 98 1, many (rsE 113 110 ((kUs n l).length : Int) rs69), blk g65 [.int .i64 ((gx (ownB n l) i).1), .int .i64 ((gx (ownB n l) i).2)] 79, blk g6 [.pointer (some ⟨g4, 0, none⟩)] 35, blk g4 [.int .i64 n, .map (some b1), .pointer (some ⟨g9, 0, none⟩)] 83, mpl Try.prog 3 3 b1 (kUs n l), row (some ⟨g64, 0, none⟩) ((ownB n l).length) c13 (cf prC (ownB n l)) 79 2] := HS.join (F := [blk g9 [.slice (some ⟨a9, 0, none⟩) rs_.length cr9, .int .i64 ((kUs n l).length : Int)] 105, row (some ⟨a9, 0, none⟩) rs_.length cr9 (cf cpt rs_) 98 1, many (rsE 113 110 ((kUs n l).length : Int) rs_)]) (G := [blk g9 [.slice (some ⟨a9, 0, none⟩) rs69.length cr9, .int .i64 ((kUs n l).length : Int)] 105, row (some ⟨a9, 0, none⟩) rs69.length cr9 (cf cpt rs69) 98 1, many (rsE 113 110 ((kUs n l).length : Int) rs69)]) H_
        clear H_
        refine wpList_nil ?_
        refine x_inb ?_
        refine x_then ?_
        refine wp_region_lit ?_
        refine ql (.int .i64 (i + 1)) (by kernel_rfl) (R_int (by kernel_rfl) (w64 (by omega))) ?_
        refine ql (.int .i64 (i + 1)) (by kernel_rfl) (by kernel_rfl) ?_
        refine wpList_nil ?_
        replace HS : St W (owns []) W71 [blk g6 [.pointer (some ⟨g4, 0, none⟩)] 35, blk g4 [.int .i64 n, .map (some b1), .pointer (some ⟨g9, 0, none⟩)] 83, mpl Try.prog 3 3 b1 (kUs n l), row (some ⟨g64, 0, none⟩) ((ownB n l).length) c13 (cf prC (ownB n l)) 79 2, blk g9 [.slice (some ⟨a9, 0, none⟩) rs69.length cr9, .int .i64 ((kUs n l).length : Int)] 105, row (some ⟨a9, 0, none⟩) rs69.length cr9 (cf cpt rs69) 98 1, many (rsE 113 110 ((kUs n l).length : Int) rs69)] := St.tail (F := [blk g65 [.int .i64 ((gx (ownB n l) i).1), .int .i64 ((gx (ownB n l) i).2)] 79]) (HS.perm (perm_ [3, 4, 5, 6, 7, 0, 1, 2] (by kernel_rfl) rfl))
        refine x_then ?_
        exact ⟨(ownB n l).length - ((i + 1)).toNat, by omega, (fun k_ : Nat => List.getD ((.int .i64 n) :: (.slice Al l.length cl) :: undef :: undef :: (.pointer none) :: (.pointer (some ⟨g6, 0, none⟩)) :: (.slice (some ⟨g64, 0, none⟩) ((ownB n l).length) c13) :: undef :: ((J15 8)) :: undef :: (.pointer (some ⟨g65, 0, none⟩)) :: (.int .i64 n) :: (.bool false) :: (.bool false) :: (.int .i64 n) :: (.bool false) :: (.bool false) :: undef :: undef :: (.int .i64 n) :: (.map (some b1)) :: (.map (some b1)) :: (.agg #[.int .i64 n, .map (some b1), .pointer none]) :: (.pointer (some ⟨g4, 0, none⟩)) :: (.slice Al l.length cl) :: (.slice A9 l.length c10) :: (.func (.func 53) #[] #[.pointer (some ⟨g6, 0, none⟩)]) :: (.slice (some ⟨g64, 0, none⟩) ((ownB n l).length) c13) :: (.slice (some ⟨g64, 0, none⟩) ((ownB n l).length) c13) :: (.int .i64 ((ownB n l).length : Int)) :: (.int .i64 j) :: (.bool false) :: ((J15 32)) :: ((J15 33)) :: ((J15 34)) :: ((J15 35)) :: ((J15 36)) :: ((J15 37)) :: ((J15 38)) :: ((J15 39)) :: ((J15 40)) :: ((J15 41)) :: ((J15 42)) :: (.tuple #[.pointer (some ⟨g9, 0, none⟩), .int .i64 0]) :: (.pointer (some ⟨g4, 0, none⟩)) :: (.pointer (some ⟨g4, 0, none⟩)) :: (.pointer (some ⟨g4, 0, none⟩)) :: (.pointer (some ⟨g4, 1, none⟩)) :: (.map (some b1)) :: (.int .i64 ((kUs n l).length : Int)) :: (.pointer (some ⟨g4, 0, none⟩)) :: (.pointer (some ⟨g4, 0, none⟩)) :: (.pointer (some ⟨g4, 1, none⟩)) :: (.map (some b1)) :: (.int .i64 ((kUs n l).length : Int)) :: (.tuple #[.pointer (some ⟨g9, 0, none⟩), .int .i64 0]) :: (.pointer (some ⟨g9, 0, none⟩)) :: (.int .i64 0) :: (.pointer (some ⟨g4, 0, none⟩)) :: (.pointer (some ⟨g4, 2, none⟩)) :: (.slice (some ⟨g64, 0, none⟩) ((ownB n l).length) c13) :: (.int .i64 ((ownB n l).length : Int)) :: (.int .i64 (i + 1)) :: (.bool true) :: (.pointer (some ⟨g64, i.toNat * 2, none⟩)) :: (.agg #[.int .i64 ((gx (ownB n l) i).1), .int .i64 ((gx (ownB n l) i).2)]) :: (.pointer (some ⟨g4, 0, none⟩)) :: (.pointer (some ⟨g4, 0, none⟩)) :: (.pointer (some ⟨g4, 2, none⟩)) :: (.pointer (some ⟨g9, 0, none⟩)) :: (.pointer (some ⟨g4, 0, none⟩)) :: (.pointer (some ⟨g4, 0, none⟩)) :: (.pointer (some ⟨g4, 1, none⟩)) :: (.map (some b1)) :: (.pointer (some ⟨g65, 0, none⟩)) :: (.int .i64 ((gx (ownB n l) i).1)) :: (.int .i64 (plv (kUs n l) ((gx (ownB n l) i).1))) :: (.pointer (some ⟨g4, 0, none⟩)) :: (.pointer (some ⟨g4, 0, none⟩)) :: (.pointer (some ⟨g4, 1, none⟩)) :: (.map (some b1)) :: (.pointer (some ⟨g65, 1, none⟩)) :: (.int .i64 ((gx (ownB n l) i).2)) :: (.int .i64 (plv (kUs n l) ((gx (ownB n l) i).2))) :: (.bool (addMB Ls_ ((kUs n l).length : Int) (plv (kUs n l) ((gx (ownB n l) i).1)) (plv (kUs n l) ((gx (ownB n l) i).2)))) :: (.int .i64 (i + 1)) :: undef :: undef :: undef :: undef :: undef :: undef :: []) k_ undef), (i + 1), rs69, (addM Ls_ ((kUs n l).length : Int) (plv (kUs n l) ((gx (ownB n l) i).1)) (plv (kUs n l) ((gx (ownB n l) i).2))), congrArg Fr (by kernel_rfl), rfl, by omega, by omega, hR70, (by omega), mtS_step hT i0 (by omega), HS⟩
      · skip
        refine ql (.bool false) (by kernel_rfl) (R_nbool (p := i < ((ownB n l).length : Int)) (by kernel_rfl) (hc63)) ?_
        refine wpList_nil ?_
        refine x_then ?_
        refine wp_seq ?_
        refine wp_cond_false (by kernel_rfl) ?_
        refine wp_exit ?_
        refine x_thenE ?_
        refine x_thenE ?_
        refine x_hit ?_
        refine x_then ?_
        refine wp_seq ?_
        refine wp_region_lit ?_
        refine ql (.pointer (some ⟨g4, 0, none⟩)) (by kernel_rfl) (R_load (p := ⟨g6, 0, none⟩) (by kernel_rfl) (by kernel_rfl) (by kernel_rfl) (HS.cell (i := 0) (j := 0) rfl rfl)) ?_
        refine ql (.pointer (some ⟨g4, 0, none⟩)) (by kernel_rfl) (by kernel_rfl) ?_
        refine ql (.pointer (some ⟨g4, 2, none⟩)) (by kernel_rfl) (by kernel_rfl) ?_
        refine ql (.pointer (some ⟨g9, 0, none⟩)) (by kernel_rfl) (R_load (p := ⟨g4, 2, none⟩) (by kernel_rfl) (by kernel_rfl) (by kernel_rfl) (HS.cell (i := 1) (j := 2) rfl rfl)) ?_
        refine qc (f := 58) (args := #[.pointer (some ⟨g9, 0, none⟩)]) (by kernel_rfl) (R_call #[.pointer (some ⟨g9, 0, none⟩)] Try.func58 (by kernel_rfl) (by kernel_rfl) (by kernel_rfl)) ?_
        replace HS : St W (owns []) W62 [blk g9 [.slice (some ⟨a9, 0, none⟩) rs_.length cr9, .int .i64 ((kUs n l).length : Int)] 105, row (some ⟨a9, 0, none⟩) rs_.length cr9 (cf cpt rs_) 98 1, many (rsE 113 110 ((kUs n l).length : Int) rs_), blk g6 [.pointer (some ⟨g4, 0, none⟩)] 35, blk g4 [.int .i64 n, .map (some b1), .pointer (some ⟨g9, 0, none⟩)] 83, mpl Try.prog 3 3 b1 (kUs n l), row A12 ((ownB n l).length) c13 (cf prC (ownB n l)) 79 2] := HS.perm (perm_ [4, 5, 6, 0, 1, 2, 3] (by kernel_rfl) rfl)
        refine (mclose g9 cr9 (some ⟨a9, 0, none⟩) ((kUs n l).length : Int) rs_ Ls_ _ _ (St.focus (F := [blk g9 [.slice (some ⟨a9, 0, none⟩) rs_.length cr9, .int .i64 ((kUs n l).length : Int)] 105, row (some ⟨a9, 0, none⟩) rs_.length cr9 (cf cpt rs_) 98 1, many (rsE 113 110 ((kUs n l).length : Int) rs_)]) HS) hRk (by omega) (by omega) (by omega)).mono ?_
        rintro e W72 ⟨rs8, rfl, H_, hR8, hl8⟩
        refine ⟨_, rfl, ?_⟩
        replace HS : St W (owns []) W72 [blk g9 [.slice (some ⟨a9, 0, none⟩) rs8.length cr9, .int .i64 ((kUs n l).length : Int)] 105, row (some ⟨a9, 0, none⟩) rs8.length cr9 (cf cpt rs8) 98 1, many (rsE 113 110 ((kUs n l).length : Int) rs8), blk g6 [.pointer (some ⟨g4, 0, none⟩)] 35, blk g4 [.int .i64 n, .map (some b1), .pointer (some ⟨g9, 0, none⟩)] 83, mpl Try.prog 3 3 b1 (kUs n l), row A12 ((ownB n l).length) c13 (cf prC (ownB n l)) 79 2] := HS.join (F := [blk g9 [.slice (some ⟨a9, 0, none⟩) rs_.length cr9, .int .i64 ((kUs n l).length : Int)] 105, row (some ⟨a9, 0, none⟩) rs_.length cr9 (cf cpt rs_) 98 1, many (rsE 113 110 ((kUs n l).length : Int) rs_)]) (G := [blk g9 [.slice (some ⟨a9, 0, none⟩) rs8.length cr9, .int .i64 ((kUs n l).length : Int)] 105, row (some ⟨a9, 0, none⟩) rs8.length cr9 (cf cpt rs8) 98 1, many (rsE 113 110 ((kUs n l).length : Int) rs8)]) H_
        clear H_
        refine wpList_nil ?_
        refine x_then ?_
        refine wp_seq ?_
        refine wp_region_lit ?_
        refine ql (.pointer (some ⟨g4, 0, none⟩)) (by kernel_rfl) (R_load (p := ⟨g6, 0, none⟩) (by kernel_rfl) (by kernel_rfl) (by kernel_rfl) (HS.cell (i := 3) (j := 0) rfl rfl)) ?_
        refine ql (.pointer (some ⟨g4, 0, none⟩)) (by kernel_rfl) (by kernel_rfl) ?_
        refine wpList_nil ?_
        refine x_then ?_
        refine wp_ret ?_
        refine ret_ (.pointer (some ⟨g4, 0, none⟩)) (by kernel_rfl) ?_
        replace HS : St W (owns []) W72 [blk g4 [.int .i64 n, .map (some b1), .pointer (some ⟨g9, 0, none⟩)] 83, mpl Try.prog 3 3 b1 (kUs n l), blk g9 [.slice (some ⟨a9, 0, none⟩) rs8.length cr9, .int .i64 ((kUs n l).length : Int)] 105, row (some ⟨a9, 0, none⟩) rs8.length cr9 (cf cpt rs8) 98 1, many (rsE 113 110 ((kUs n l).length : Int) rs8)] := St.tail (F := [blk g6 [.pointer (some ⟨g4, 0, none⟩)] 35, row A12 ((ownB n l).length) c13 (cf prC (ownB n l)) 79 2]) (HS.perm (perm_ [3, 6, 4, 5, 0, 1, 2] (by kernel_rfl) rfl))
        have hLs : Ls_ = kMat (kUs n l) (ownB n l) := mtS_end hT (by omega)
        exact ⟨g4, ⟨b1, g9, cr9, (some ⟨a9, 0, none⟩), rs8, kUs n l⟩, rfl, St.close1 HS, ⟨rfl, by rw [hLs] at hR8; exact hR8⟩⟩

open Go.Shelf
theorem khasP (k : Nat) (n : Int) (x : KnX) (l : List (Int × Int)) (a c : Int) (W : World) (hP : (many (knE Try.prog 83 3 3 105 98 113 110 k n x)).P W) (hx : x.ok n l) (hn : n ≤ 65536) (hll : l.length ≤ 400) : Calls Try.prog 21 #[.pointer (some ⟨k, 0, none⟩), .int .i64 a, .int .i64 c] W fun e W' => e = .returned (.bool (knB n l a c)) ∧ St W (owns []) W' [] := by
  obtain ⟨h0, h1, h2, h3, h4⟩ := kn_P hP
  exact khas k x.b x.g x.cr x.R x.rs x.us n l a c W h0 h1 h2 h3 h4 hx.us hx.rep hn (by rw [hx.us]; have := kUs_len n l; omega)

set_option maxRecDepth 100000 in
set_option maxHeartbeats 1000000 in
theorem kalike (k b g cr : Nat) (R : Option Addr) (rs : List Rw) (us : List Int) (n : Int) (l : List (Int × Int)) (a c : Int) (W : World) (hk0 : W.cell? ⟨k, 0, none⟩ = some (.int .i64 n)) (hk1 : W.cell? ⟨k, 1, none⟩ = some (.map (some b))) (hk2 : W.cell? ⟨k, 2, none⟩ = some (.pointer (some ⟨g, 0, none⟩))) (hpl : (mpl Try.prog 3 3 b us).P W) (hm : Mr W g R cr (us.length : Int) rs) (hus : us = kUs n l) (hR : MRep rs (us.length : Int) (kLs n l)) (hn : n ≤ 65536) (hul : us.length ≤ 1000) : Calls Try.prog 20 #[.pointer (some ⟨k, 0, none⟩), .int .i64 a, .int .i64 c] W fun e W' => e = .returned (.bool (knB n l a c && knB n l c a)) ∧ St W (owns []) W' [] := by
  have HS : St W (owns []) W [] := St.start W _
  refine calls_enter [.pointer (some ⟨k, 0, none⟩), .int .i64 a, .int .i64 c, undef, undef, undef, undef, undef, undef, undef, undef, undef, undef, undef, undef, undef, undef] Try.func20 rfl (by kernel_rfl) ?_
  refine wp_seq ?_
  refine wp_region_lit ?_
  refine ql (.bool false) (by kernel_rfl) (by kernel_rfl) ?_
  refine wpList_nil ?_
  refine x_then ?_
  refine wp_seq ?_
  refine wp_region_lit ?_
  refine ql (.pointer (some ⟨k, 0, none⟩)) (by kernel_rfl) (by kernel_rfl) ?_
  refine ql (.int .i64 a) (by kernel_rfl) (by kernel_rfl) ?_
  refine ql (.int .i64 c) (by kernel_rfl) (by kernel_rfl) ?_
  refine qc (f := 21) (args := #[.pointer (some ⟨k, 0, none⟩), .int .i64 a, .int .i64 c]) (by kernel_rfl) (R_call #[.pointer (some ⟨k, 0, none⟩), .int .i64 a, .int .i64 c] Try.func21 (by kernel_rfl) (by kernel_rfl) (by kernel_rfl)) ?_
  by_cases hkn_a_c : knB n l a c = true
  · skip
    refine (khas k b g cr R rs us n l a c _ (HS.old0 hk0) (HS.old0 hk1) (HS.old0 hk2) (mpl_old hpl HS) (hm.old0 HS) hus hR hn hul).mono ?_
    rintro e W1 ⟨rfl, H_⟩
    rw [hkn_a_c]
    refine ⟨_, rfl, ?_⟩
    replace HS : St W (owns []) W1 [] := HS.join (F := []) (G := []) H_
    clear H_
    refine ql (.bool true) (by kernel_rfl) (by kernel_rfl) ?_
    refine ql (.pointer (some ⟨k, 0, none⟩)) (by kernel_rfl) (by kernel_rfl) ?_
    refine ql (.int .i64 c) (by kernel_rfl) (by kernel_rfl) ?_
    refine ql (.int .i64 a) (by kernel_rfl) (by kernel_rfl) ?_
    refine qc (f := 21) (args := #[.pointer (some ⟨k, 0, none⟩), .int .i64 c, .int .i64 a]) (by kernel_rfl) (R_call #[.pointer (some ⟨k, 0, none⟩), .int .i64 c, .int .i64 a] Try.func21 (by kernel_rfl) (by kernel_rfl) (by kernel_rfl)) ?_
    by_cases hkn_c_a : knB n l c a = true
    · skip
      refine (khas k b g cr R rs us n l c a _ (HS.old0 hk0) (HS.old0 hk1) (HS.old0 hk2) (mpl_old hpl HS) (hm.old0 HS) hus hR hn hul).mono ?_
      rintro e W2 ⟨rfl, H_⟩
      rw [hkn_c_a]
      refine ⟨_, rfl, ?_⟩
      replace HS : St W (owns []) W2 [] := HS.join (F := []) (G := []) H_
      clear H_
      refine ql (.bool true) (by kernel_rfl) (by kernel_rfl) ?_
      refine ql (.bool true) (by kernel_rfl) (by kernel_rfl) ?_
      refine wpList_nil ?_
      refine x_then ?_
      refine wp_ret ?_
      refine ret_ (.bool true) (by kernel_rfl) ?_
      exact ⟨rfl, HS⟩
    · skip
      refine (khas k b g cr R rs us n l c a _ (HS.old0 hk0) (HS.old0 hk1) (HS.old0 hk2) (mpl_old hpl HS) (hm.old0 HS) hus hR hn hul).mono ?_
      rintro e W3 ⟨rfl, H_⟩
      rw [Bool.eq_false_iff.2 hkn_c_a]
      refine ⟨_, rfl, ?_⟩
      replace HS : St W (owns []) W3 [] := HS.join (F := []) (G := []) H_
      clear H_
      refine ql (.bool false) (by kernel_rfl) (by kernel_rfl) ?_
      refine ql (.bool false) (by kernel_rfl) (by kernel_rfl) ?_
      refine wpList_nil ?_
      refine x_then ?_
      refine wp_ret ?_
      refine ret_ (.bool false) (by kernel_rfl) ?_
      exact ⟨rfl, HS⟩
  · skip
    refine (khas k b g cr R rs us n l a c _ (HS.old0 hk0) (HS.old0 hk1) (HS.old0 hk2) (mpl_old hpl HS) (hm.old0 HS) hus hR hn hul).mono ?_
    rintro e W4 ⟨rfl, H_⟩
    rw [Bool.eq_false_iff.2 hkn_a_c]
    refine ⟨_, rfl, ?_⟩
    replace HS : St W (owns []) W4 [] := HS.join (F := []) (G := []) H_
    clear H_
    refine ql (.bool false) (by kernel_rfl) (by kernel_rfl) ?_
    refine qln (by kernel_rfl) ?_
    refine qln (by kernel_rfl) ?_
    refine qln (by kernel_rfl) ?_
    refine qln (by kernel_rfl) ?_
    refine ql (.bool false) (by kernel_rfl) (by kernel_rfl) ?_
    refine ql (.bool false) (by kernel_rfl) (by kernel_rfl) ?_
    refine wpList_nil ?_
    refine x_then ?_
    refine wp_ret ?_
    refine ret_ (.bool false) (by kernel_rfl) ?_
    exact ⟨rfl, HS⟩

theorem kalikeP (k : Nat) (n : Int) (x : KnX) (l : List (Int × Int)) (a c : Int) (W : World) (hP : (many (knE Try.prog 83 3 3 105 98 113 110 k n x)).P W) (hx : x.ok n l) (hn : n ≤ 65536) (hll : l.length ≤ 400) : Calls Try.prog 20 #[.pointer (some ⟨k, 0, none⟩), .int .i64 a, .int .i64 c] W fun e W' => e = .returned (.bool (knB n l a c && knB n l c a)) ∧ St W (owns []) W' [] := by
  obtain ⟨h0, h1, h2, h3, h4⟩ := kn_P hP
  exact kalike k x.b x.g x.cr x.R x.rs x.us n l a c W h0 h1 h2 h3 h4 hx.us hx.rep hn (by rw [hx.us]; have := kUs_len n l; omega)

set_option maxRecDepth 100000 in
set_option maxHeartbeats 1000000 in
theorem ksubs (k b g cr : Nat) (R : Option Addr) (rs : List Rw) (us : List Int) (n : Int) (l : List (Int × Int)) (a : Int) (W : World) (hk0 : W.cell? ⟨k, 0, none⟩ = some (.int .i64 n)) (hk1 : W.cell? ⟨k, 1, none⟩ = some (.map (some b))) (hk2 : W.cell? ⟨k, 2, none⟩ = some (.pointer (some ⟨g, 0, none⟩))) (hpl : (mpl Try.prog 3 3 b us).P W) (hm : Mr W g R cr (us.length : Int) rs) (hus : us = kUs n l) (hR : MRep rs (us.length : Int) (kLs n l)) (hn : n ≤ 65536) (hul : us.length ≤ 1000) (h0n : 0 ≤ n) : Calls Try.prog 22 #[.pointer (some ⟨k, 0, none⟩), .int .i64 a] W fun e W' => ∃ A' c', e = .returned (.slice A' (subsL n l a n).length c') ∧ St W (owns []) W' [row A' ((subsL n l a n).length) c' (ci .i64 (subsL n l a n)) 3 1] := by
  have HS : St W (owns []) W [] := St.start W _
  refine calls_enter [.pointer (some ⟨k, 0, none⟩), .int .i64 a, undef, undef, undef, undef, undef, undef, undef, undef, undef, undef, undef, undef, undef, undef, undef, undef, undef, undef, undef, undef] Try.func22 rfl (by kernel_rfl) ?_
  refine wp_seq ?_
  refine wp_region_lit ?_
  refine ql (.slice none 0 0) (by kernel_rfl) (by kernel_rfl) ?_
  refine wpList_nil ?_
  refine x_then ?_
  refine wp_seq ?_
  refine wp_region_lit ?_
  refine ql (.slice none 0 0) (by kernel_rfl) (by kernel_rfl) ?_
  refine wpList_nil ?_
  refine x_then ?_
  refine wp_seq ?_
  refine wp_seq ?_
  refine wp_region_lit ?_
  refine ql (.pointer (some ⟨k, 0, none⟩)) (by kernel_rfl) (by kernel_rfl) ?_
  refine qc (f := 36) (args := #[.pointer (some ⟨k, 0, none⟩)]) (by kernel_rfl) (R_call #[.pointer (some ⟨k, 0, none⟩)] Try.func36 (by kernel_rfl) (by kernel_rfl) (by kernel_rfl)) ?_
  refine (klen k n _ (HS.old0 hk0)).mono ?_
  rintro e W1 ⟨rfl, H_⟩
  refine ⟨_, rfl, ?_⟩
  replace HS : St W (owns []) W1 [] := HS.join (F := []) (G := []) H_
  clear H_
  refine ql (.int .i64 0) (by kernel_rfl) (by kernel_rfl) ?_
  refine wpList_nil ?_
  refine x_then ?_
  refine wp_block ?_
  replace HS : St W (owns []) W1 [row none 0 0 (ci .i64 ([])) 3 1] := (HS.nilRow 3 1).cast_ (by kernel_rfl)
  refine wp_loop_ghost (fun kq a' w' => ∃ (J2 : Nat → Value) (j : Int) (L6 : List Int) (A6 : Option Addr) (c6 : Nat) , a' = Fr [.pointer (some ⟨k, 0, none⟩), .int .i64 a, undef, undef, .slice none 0 0, .slice A6 L6.length c6, (J2 6), .pointer (some ⟨k, 0, none⟩), .int .i64 n, .int .i64 j, (J2 10), (J2 11), (J2 12), (J2 13), (J2 14), (J2 15), (J2 16), (J2 17), (J2 18), (J2 19), (J2 20), undef] ∧ kq = ((n - j).toNat) ∧ (0 ≤ j) ∧ (j ≤ max n 0) ∧ (L6 = (subsL n l a j)) ∧ St W (owns []) w' [row A6 L6.length c6 (ci .i64 L6) 3 1]) ((n - (0 : Int)).toNat) ⟨(fun k_ : Nat => List.getD [.pointer (some ⟨k, 0, none⟩), .int .i64 a, undef, undef, .slice none 0 0, .slice none 0 0, undef, .pointer (some ⟨k, 0, none⟩), .int .i64 n, .int .i64 0, undef, undef, undef, undef, undef, undef, undef, undef, undef, undef, undef, undef] k_ undef), (0 : Int), [], none, 0, congrArg Fr (by kernel_rfl), rfl, by omega, by omega, rfl, HS⟩ ?_
  clear HS
  intro kq3 a' W4 hrel
  obtain ⟨J2, j, L6, A6, c6, rfl, hk, j0, j1, hL6, HS⟩ := hrel
  have hsl := subs_len n l a j
  rw [← hL6] at hsl
  refine wp_seq ?_
  refine wp_region_lit ?_
  by_cases hc5 : j < n
  · skip
    refine ql (.bool true) (by kernel_rfl) (R_bool (p := j < n) (by kernel_rfl) (hc5)) ?_
    refine wpList_nil ?_
    refine x_then ?_
    refine wp_seq ?_
    refine wp_cond_true (by kernel_rfl) ?_
    refine wp_skip ?_
    refine x_then ?_
    refine wp_seq ?_
    refine wp_block ?_
    refine wp_seq ?_
    refine wp_region_lit ?_
    refine ql (.int .i64 j) (by kernel_rfl) (by kernel_rfl) ?_
    refine ql (.int .i64 j) (by kernel_rfl) (by kernel_rfl) ?_
    refine wpList_nil ?_
    refine x_then ?_
    refine wp_seq ?_
    refine wp_region_lit ?_
    refine ql (.pointer (some ⟨k, 0, none⟩)) (by kernel_rfl) (by kernel_rfl) ?_
    refine ql (.int .i64 a) (by kernel_rfl) (by kernel_rfl) ?_
    refine ql (.int .i64 j) (by kernel_rfl) (by kernel_rfl) ?_
    refine qc (f := 21) (args := #[.pointer (some ⟨k, 0, none⟩), .int .i64 a, .int .i64 j]) (by kernel_rfl) (R_call #[.pointer (some ⟨k, 0, none⟩), .int .i64 a, .int .i64 j] Try.func21 (by kernel_rfl) (by kernel_rfl) (by kernel_rfl)) ?_
    by_cases hkn_a_j : knB n l a j = true
    · skip
      refine (khas k b g cr R rs us n l a j _ (HS.old0 hk0) (HS.old0 hk1) (HS.old0 hk2) (mpl_old hpl HS) (hm.old0 HS) hus hR hn hul).mono ?_
      rintro e W6 ⟨rfl, H_⟩
      rw [hkn_a_j]
      refine ⟨_, rfl, ?_⟩
      replace HS : St W (owns []) W6 [row A6 L6.length c6 (ci .i64 L6) 3 1] := HS.join (F := []) (G := []) H_
      clear H_
      refine wpList_nil ?_
      refine x_then ?_
      refine wp_cond_true (by kernel_rfl) ?_
      refine wp_region_lit ?_
      refine ql (.slice A6 L6.length c6) (by kernel_rfl) (by kernel_rfl) ?_
      refine ql (.int .i64 j) (by kernel_rfl) (by kernel_rfl) ?_
      refine kl HS 1 [.int .i64 j] 3 1 (by kernel_rfl) (by kernel_rfl) rfl (by decide) ?_
      intro g7 W8 H_
      replace HS : St W (owns []) W8 [row (some ⟨g7, 0, none⟩) 1 1 (ci .i64 ([j])) 3 1, row A6 L6.length c6 (ci .i64 L6) 3 1] := H_.cast_ (by kernel_rfl)
      clear H_
      obtain ⟨xs12, xs12_⟩ : ∃ z_ : List Int, z_ = L6 ++ ([j]) := ⟨_, rfl⟩
      have xs12l : xs12.length = L6.length + 1 := by rw [xs12_, List.length_append] <;> (try simp only [List.length_cons, List.length_nil]) <;> omega
      refine ka1 HS 1 rfl (Src.of_row HS (i := 0) rfl ci_one) [.int .i64 0] 8 xs12.length (ci .i64 xs12) (by omega) (by rw [xs12_, ci_app]) (by kernel_rfl) (by kernel_rfl) (by kernel_rfl) Try.underlying22 (by kernel_rfl) (by kernel_rfl) (by kernel_rfl) (by kernel_rfl) (by decide) (by omega) (by omega) ?_
      intro A9 c10 W11 H_
      replace HS : St W (owns []) W11 [row (some ⟨g7, 0, none⟩) 1 1 (ci .i64 ([j])) 3 1, row A9 xs12.length c10 (ci .i64 xs12) 3 1] := H_
      clear H_
      refine ql (.slice A9 xs12.length c10) (by kernel_rfl) (by kernel_rfl) ?_
      refine wpList_nil ?_
      refine x_inb ?_
      refine x_then ?_
      refine wp_region_lit ?_
      refine ql (.int .i64 (j + 1)) (by kernel_rfl) (R_int (by kernel_rfl) (w64 (by omega))) ?_
      refine ql (.int .i64 (j + 1)) (by kernel_rfl) (by kernel_rfl) ?_
      refine wpList_nil ?_
      replace HS := HS.drop1
      refine x_then ?_
      exact ⟨(n - (j + 1)).toNat, by omega, (fun k_ : Nat => List.getD [.pointer (some ⟨k, 0, none⟩), .int .i64 a, undef, undef, .slice none 0 0, .slice A9 xs12.length c10, .int .i64 j, .pointer (some ⟨k, 0, none⟩), .int .i64 n, .int .i64 (j + 1), .bool true, .int .i64 j, .pointer (some ⟨k, 0, none⟩), .int .i64 a, .int .i64 j, .bool true, .slice A6 L6.length c6, .int .i64 j, .slice (some ⟨g7, 0, none⟩) 1 1, .slice A9 xs12.length c10, .int .i64 (j + 1), undef] k_ undef), (j + 1), xs12, A9, c10, congrArg Fr (by kernel_rfl), rfl, by omega, by omega, (by rw [xs12_, hL6, subs_t j0 hkn_a_j]), HS⟩
    · skip
      refine (khas k b g cr R rs us n l a j _ (HS.old0 hk0) (HS.old0 hk1) (HS.old0 hk2) (mpl_old hpl HS) (hm.old0 HS) hus hR hn hul).mono ?_
      rintro e W13 ⟨rfl, H_⟩
      rw [Bool.eq_false_iff.2 hkn_a_j]
      refine ⟨_, rfl, ?_⟩
      replace HS : St W (owns []) W13 [row A6 L6.length c6 (ci .i64 L6) 3 1] := HS.join (F := []) (G := []) H_
      clear H_
      refine wpList_nil ?_
      refine x_then ?_
      refine wp_cond_false (by kernel_rfl) ?_
      refine wp_skip ?_
      refine x_inb ?_
      refine x_then ?_
      refine wp_region_lit ?_
      refine ql (.int .i64 (j + 1)) (by kernel_rfl) (R_int (by kernel_rfl) (w64 (by omega))) ?_
      refine ql (.int .i64 (j + 1)) (by kernel_rfl) (by kernel_rfl) ?_
      refine wpList_nil ?_
      refine x_then ?_
      exact ⟨(n - (j + 1)).toNat, by omega, (fun k_ : Nat => List.getD [.pointer (some ⟨k, 0, none⟩), .int .i64 a, undef, undef, .slice none 0 0, .slice A6 L6.length c6, .int .i64 j, .pointer (some ⟨k, 0, none⟩), .int .i64 n, .int .i64 (j + 1), .bool true, .int .i64 j, .pointer (some ⟨k, 0, none⟩), .int .i64 a, .int .i64 j, .bool false, (J2 16), (J2 17), (J2 18), (J2 19), .int .i64 (j + 1), undef] k_ undef), (j + 1), L6, A6, c6, congrArg Fr (by kernel_rfl), rfl, by omega, by omega, (by rw [hL6, subs_f j0 (Bool.eq_false_iff.2 hkn_a_j)]), HS⟩
  · skip
    refine ql (.bool false) (by kernel_rfl) (R_nbool (p := j < n) (by kernel_rfl) (hc5)) ?_
    refine wpList_nil ?_
    refine x_then ?_
    refine wp_seq ?_
    refine wp_cond_false (by kernel_rfl) ?_
    refine wp_exit ?_
    refine x_thenE ?_
    refine x_thenE ?_
    refine x_hit ?_
    refine x_then ?_
    refine wp_seq ?_
    refine wp_region_lit ?_
    refine ql (.slice A6 L6.length c6) (by kernel_rfl) (by kernel_rfl) ?_
    refine ql (.slice A6 L6.length c6) (by kernel_rfl) (by kernel_rfl) ?_
    refine wpList_nil ?_
    refine x_then ?_
    refine wp_ret ?_
    refine ret_ (.slice A6 L6.length c6) (by kernel_rfl) ?_
    have hjn : j = n := by omega
    rw [hjn] at hL6
    subst hL6
    exact ⟨_, _, rfl, HS⟩

theorem ksubsP (k : Nat) (n : Int) (x : KnX) (l : List (Int × Int)) (a : Int) (W : World) (hP : (many (knE Try.prog 83 3 3 105 98 113 110 k n x)).P W) (hx : x.ok n l) (hn : n ≤ 65536) (hll : l.length ≤ 400) (h0n : 0 ≤ n) : Calls Try.prog 22 #[.pointer (some ⟨k, 0, none⟩), .int .i64 a] W fun e W' => ∃ A' c', e = .returned (.slice A' (subsL n l a n).length c') ∧ St W (owns []) W' [row A' ((subsL n l a n).length) c' (ci .i64 (subsL n l a n)) 3 1] := by
  obtain ⟨h0, h1, h2, h3, h4⟩ := kn_P hP
  exact ksubs k x.b x.g x.cr x.R x.rs x.us n l a W h0 h1 h2 h3 h4 hx.us hx.rep hn (by rw [hx.us]; have := kUs_len n l; omega) h0n

set_option maxRecDepth 100000 in
set_option maxHeartbeats 1000000 in
theorem ksups (k b g cr : Nat) (R : Option Addr) (rs : List Rw) (us : List Int) (n : Int) (l : List (Int × Int)) (a : Int) (W : World) (hk0 : W.cell? ⟨k, 0, none⟩ = some (.int .i64 n)) (hk1 : W.cell? ⟨k, 1, none⟩ = some (.map (some b))) (hk2 : W.cell? ⟨k, 2, none⟩ = some (.pointer (some ⟨g, 0, none⟩))) (hpl : (mpl Try.prog 3 3 b us).P W) (hm : Mr W g R cr (us.length : Int) rs) (hus : us = kUs n l) (hR : MRep rs (us.length : Int) (kLs n l)) (hn : n ≤ 65536) (hul : us.length ≤ 1000) (h0n : 0 ≤ n) : Calls Try.prog 23 #[.pointer (some ⟨k, 0, none⟩), .int .i64 a] W fun e W' => ∃ A' c', e = .returned (.slice A' (supsL n l a n).length c') ∧ St W (owns []) W' [row A' ((supsL n l a n).length) c' (ci .i64 (supsL n l a n)) 3 1] := by
  have HS : St W (owns []) W [] := St.start W _
  refine calls_enter [.pointer (some ⟨k, 0, none⟩), .int .i64 a, undef, undef, undef, undef, undef, undef, undef, undef, undef, undef, undef, undef, undef, undef, undef, undef, undef, undef, undef, undef] Try.func23 rfl (by kernel_rfl) ?_
  refine wp_seq ?_
  refine wp_region_lit ?_
  refine ql (.slice none 0 0) (by kernel_rfl) (by kernel_rfl) ?_
  refine wpList_nil ?_
  refine x_then ?_
  refine wp_seq ?_
  refine wp_region_lit ?_
  refine ql (.slice none 0 0) (by kernel_rfl) (by kernel_rfl) ?_
  refine wpList_nil ?_
  refine x_then ?_
  refine wp_seq ?_
  refine wp_seq ?_
  refine wp_region_lit ?_
  refine ql (.pointer (some ⟨k, 0, none⟩)) (by kernel_rfl) (by kernel_rfl) ?_
  refine qc (f := 36) (args := #[.pointer (some ⟨k, 0, none⟩)]) (by kernel_rfl) (R_call #[.pointer (some ⟨k, 0, none⟩)] Try.func36 (by kernel_rfl) (by kernel_rfl) (by kernel_rfl)) ?_
  refine (klen k n _ (HS.old0 hk0)).mono ?_
  rintro e W1 ⟨rfl, H_⟩
  refine ⟨_, rfl, ?_⟩
  replace HS : St W (owns []) W1 [] := HS.join (F := []) (G := []) H_
  clear H_
  refine ql (.int .i64 0) (by kernel_rfl) (by kernel_rfl) ?_
  refine wpList_nil ?_
  refine x_then ?_
  refine wp_block ?_
  replace HS : St W (owns []) W1 [row none 0 0 (ci .i64 ([])) 3 1] := (HS.nilRow 3 1).cast_ (by kernel_rfl)
  refine wp_loop_ghost (fun kq a' w' => ∃ (J2 : Nat → Value) (j : Int) (L6 : List Int) (A6 : Option Addr) (c6 : Nat) , a' = Fr [.pointer (some ⟨k, 0, none⟩), .int .i64 a, undef, undef, .slice none 0 0, .slice A6 L6.length c6, (J2 6), .pointer (some ⟨k, 0, none⟩), .int .i64 n, .int .i64 j, (J2 10), (J2 11), (J2 12), (J2 13), (J2 14), (J2 15), (J2 16), (J2 17), (J2 18), (J2 19), (J2 20), undef] ∧ kq = ((n - j).toNat) ∧ (0 ≤ j) ∧ (j ≤ max n 0) ∧ (L6 = (supsL n l a j)) ∧ St W (owns []) w' [row A6 L6.length c6 (ci .i64 L6) 3 1]) ((n - (0 : Int)).toNat) ⟨(fun k_ : Nat => List.getD [.pointer (some ⟨k, 0, none⟩), .int .i64 a, undef, undef, .slice none 0 0, .slice none 0 0, undef, .pointer (some ⟨k, 0, none⟩), .int .i64 n, .int .i64 0, undef, undef, undef, undef, undef, undef, undef, undef, undef, undef, undef, undef] k_ undef), (0 : Int), [], none, 0, congrArg Fr (by kernel_rfl), rfl, by omega, by omega, rfl, HS⟩ ?_
  clear HS
  intro kq3 a' W4 hrel
  obtain ⟨J2, j, L6, A6, c6, rfl, hk, j0, j1, hL6, HS⟩ := hrel
  have hsl := sups_len n l a j
  rw [← hL6] at hsl
  refine wp_seq ?_
  refine wp_region_lit ?_
  by_cases hc5 : j < n
  · skip
    refine ql (.bool true) (by kernel_rfl) (R_bool (p := j < n) (by kernel_rfl) (hc5)) ?_
    refine wpList_nil ?_
    refine x_then ?_
    refine wp_seq ?_
    refine wp_cond_true (by kernel_rfl) ?_
    refine wp_skip ?_
    refine x_then ?_
    refine wp_seq ?_
    refine wp_block ?_
    refine wp_seq ?_
    refine wp_region_lit ?_
    refine ql (.int .i64 j) (by kernel_rfl) (by kernel_rfl) ?_
    refine ql (.int .i64 j) (by kernel_rfl) (by kernel_rfl) ?_
    refine wpList_nil ?_
    refine x_then ?_
    refine wp_seq ?_
    refine wp_region_lit ?_
    refine ql (.pointer (some ⟨k, 0, none⟩)) (by kernel_rfl) (by kernel_rfl) ?_
    refine ql (.int .i64 j) (by kernel_rfl) (by kernel_rfl) ?_
    refine ql (.int .i64 a) (by kernel_rfl) (by kernel_rfl) ?_
    refine qc (f := 21) (args := #[.pointer (some ⟨k, 0, none⟩), .int .i64 j, .int .i64 a]) (by kernel_rfl) (R_call #[.pointer (some ⟨k, 0, none⟩), .int .i64 j, .int .i64 a] Try.func21 (by kernel_rfl) (by kernel_rfl) (by kernel_rfl)) ?_
    by_cases hkn_j_a : knB n l j a = true
    · skip
      refine (khas k b g cr R rs us n l j a _ (HS.old0 hk0) (HS.old0 hk1) (HS.old0 hk2) (mpl_old hpl HS) (hm.old0 HS) hus hR hn hul).mono ?_
      rintro e W6 ⟨rfl, H_⟩
      rw [hkn_j_a]
      refine ⟨_, rfl, ?_⟩
      replace HS : St W (owns []) W6 [row A6 L6.length c6 (ci .i64 L6) 3 1] := HS.join (F := []) (G := []) H_
      clear H_
      refine wpList_nil ?_
      refine x_then ?_
      refine wp_cond_true (by kernel_rfl) ?_
      refine wp_region_lit ?_
      refine ql (.slice A6 L6.length c6) (by kernel_rfl) (by kernel_rfl) ?_
      refine ql (.int .i64 j) (by kernel_rfl) (by kernel_rfl) ?_
      refine kl HS 1 [.int .i64 j] 3 1 (by kernel_rfl) (by kernel_rfl) rfl (by decide) ?_
      intro g7 W8 H_
      replace HS : St W (owns []) W8 [row (some ⟨g7, 0, none⟩) 1 1 (ci .i64 ([j])) 3 1, row A6 L6.length c6 (ci .i64 L6) 3 1] := H_.cast_ (by kernel_rfl)
      clear H_
      obtain ⟨xs12, xs12_⟩ : ∃ z_ : List Int, z_ = L6 ++ ([j]) := ⟨_, rfl⟩
      have xs12l : xs12.length = L6.length + 1 := by rw [xs12_, List.length_append] <;> (try simp only [List.length_cons, List.length_nil]) <;> omega
      refine ka1 HS 1 rfl (Src.of_row HS (i := 0) rfl ci_one) [.int .i64 0] 8 xs12.length (ci .i64 xs12) (by omega) (by rw [xs12_, ci_app]) (by kernel_rfl) (by kernel_rfl) (by kernel_rfl) Try.underlying22 (by kernel_rfl) (by kernel_rfl) (by kernel_rfl) (by kernel_rfl) (by decide) (by omega) (by omega) ?_
      intro A9 c10 W11 H_
      replace HS : St W (owns []) W11 [row (some ⟨g7, 0, none⟩) 1 1 (ci .i64 ([j])) 3 1, row A9 xs12.length c10 (ci .i64 xs12) 3 1] := H_
      clear H_
      refine ql (.slice A9 xs12.length c10) (by kernel_rfl) (by kernel_rfl) ?_
      refine wpList_nil ?_
      refine x_inb ?_
      refine x_then ?_
      refine wp_region_lit ?_
      refine ql (.int .i64 (j + 1)) (by kernel_rfl) (R_int (by kernel_rfl) (w64 (by omega))) ?_
      refine ql (.int .i64 (j + 1)) (by kernel_rfl) (by kernel_rfl) ?_
      refine wpList_nil ?_
      replace HS := HS.drop1
      refine x_then ?_
      exact ⟨(n - (j + 1)).toNat, by omega, (fun k_ : Nat => List.getD [.pointer (some ⟨k, 0, none⟩), .int .i64 a, undef, undef, .slice none 0 0, .slice A9 xs12.length c10, .int .i64 j, .pointer (some ⟨k, 0, none⟩), .int .i64 n, .int .i64 (j + 1), .bool true, .int .i64 j, .pointer (some ⟨k, 0, none⟩), .int .i64 j, .int .i64 a, .bool true, .slice A6 L6.length c6, .int .i64 j, .slice (some ⟨g7, 0, none⟩) 1 1, .slice A9 xs12.length c10, .int .i64 (j + 1), undef] k_ undef), (j + 1), xs12, A9, c10, congrArg Fr (by kernel_rfl), rfl, by omega, by omega, (by rw [xs12_, hL6, sups_t j0 hkn_j_a]), HS⟩
    · skip
      refine (khas k b g cr R rs us n l j a _ (HS.old0 hk0) (HS.old0 hk1) (HS.old0 hk2) (mpl_old hpl HS) (hm.old0 HS) hus hR hn hul).mono ?_
      rintro e W13 ⟨rfl, H_⟩
      rw [Bool.eq_false_iff.2 hkn_j_a]
      refine ⟨_, rfl, ?_⟩
      replace HS : St W (owns []) W13 [row A6 L6.length c6 (ci .i64 L6) 3 1] := HS.join (F := []) (G := []) H_
      clear H_
      refine wpList_nil ?_
      refine x_then ?_
      refine wp_cond_false (by kernel_rfl) ?_
      refine wp_skip ?_
      refine x_inb ?_
      refine x_then ?_
      refine wp_region_lit ?_
      refine ql (.int .i64 (j + 1)) (by kernel_rfl) (R_int (by kernel_rfl) (w64 (by omega))) ?_
      refine ql (.int .i64 (j + 1)) (by kernel_rfl) (by kernel_rfl) ?_
      refine wpList_nil ?_
      refine x_then ?_
      exact ⟨(n - (j + 1)).toNat, by omega, (fun k_ : Nat => List.getD [.pointer (some ⟨k, 0, none⟩), .int .i64 a, undef, undef, .slice none 0 0, .slice A6 L6.length c6, .int .i64 j, .pointer (some ⟨k, 0, none⟩), .int .i64 n, .int .i64 (j + 1), .bool true, .int .i64 j, .pointer (some ⟨k, 0, none⟩), .int .i64 j, .int .i64 a, .bool false, (J2 16), (J2 17), (J2 18), (J2 19), .int .i64 (j + 1), undef] k_ undef), (j + 1), L6, A6, c6, congrArg Fr (by kernel_rfl), rfl, by omega, by omega, (by rw [hL6, sups_f j0 (Bool.eq_false_iff.2 hkn_j_a)]), HS⟩
  · skip
    refine ql (.bool false) (by kernel_rfl) (R_nbool (p := j < n) (by kernel_rfl) (hc5)) ?_
    refine wpList_nil ?_
    refine x_then ?_
    refine wp_seq ?_
    refine wp_cond_false (by kernel_rfl) ?_
    refine wp_exit ?_
    refine x_thenE ?_
    refine x_thenE ?_
    refine x_hit ?_
    refine x_then ?_
    refine wp_seq ?_
    refine wp_region_lit ?_
    refine ql (.slice A6 L6.length c6) (by kernel_rfl) (by kernel_rfl) ?_
    refine ql (.slice A6 L6.length c6) (by kernel_rfl) (by kernel_rfl) ?_
    refine wpList_nil ?_
    refine x_then ?_
    refine wp_ret ?_
    refine ret_ (.slice A6 L6.length c6) (by kernel_rfl) ?_
    have hjn : j = n := by omega
    rw [hjn] at hL6
    subst hL6
    exact ⟨_, _, rfl, HS⟩

theorem ksupsP (k : Nat) (n : Int) (x : KnX) (l : List (Int × Int)) (a : Int) (W : World) (hP : (many (knE Try.prog 83 3 3 105 98 113 110 k n x)).P W) (hx : x.ok n l) (hn : n ≤ 65536) (hll : l.length ≤ 400) (h0n : 0 ≤ n) : Calls Try.prog 23 #[.pointer (some ⟨k, 0, none⟩), .int .i64 a] W fun e W' => ∃ A' c', e = .returned (.slice A' (supsL n l a n).length c') ∧ St W (owns []) W' [row A' ((supsL n l a n).length) c' (ci .i64 (supsL n l a n)) 3 1] := by
  obtain ⟨h0, h1, h2, h3, h4⟩ := kn_P hP
  exact ksups k x.b x.g x.cr x.R x.rs x.us n l a W h0 h1 h2 h3 h4 hx.us hx.rep hn (by rw [hx.us]; have := kUs_len n l; omega) h0n

set_option maxRecDepth 100000 in
set_option maxHeartbeats 1000000 in
theorem kcl69 (k b g cr : Nat) (R : Option Addr) (rs : List Rw) (us : List Int) (n : Int) (l : List (Int × Int)) (kv : Nat) (x : Int × Int) (W : World) (hkv : W.cell? ⟨kv, 0, none⟩ = some (.pointer (some ⟨k, 0, none⟩))) (hk0 : W.cell? ⟨k, 0, none⟩ = some (.int .i64 n)) (hk1 : W.cell? ⟨k, 1, none⟩ = some (.map (some b))) (hk2 : W.cell? ⟨k, 2, none⟩ = some (.pointer (some ⟨g, 0, none⟩))) (hpl : (mpl Try.prog 3 3 b us).P W) (hm : Mr W g R cr (us.length : Int) rs) (hus : us = kUs n l) (hR : MRep rs (us.length : Int) (kLs n l)) (hn : n ≤ 65536) (hul : us.length ≤ 1000) : Calls Try.prog 69 #[.agg #[.int .i64 x.1, .int .i64 x.2], .pointer (some ⟨kv, 0, none⟩)] W fun e W' => e = .returned (.bool (!knB n l x.1 x.2)) ∧ St W (owns []) W' [] := by
  have HS : St W (owns []) W [] := St.start W _
  refine calls_enter [.agg #[.int .i64 x.1, .int .i64 x.2], .pointer (some ⟨kv, 0, none⟩), undef, undef, undef, undef, undef, undef, undef, undef, undef] Try.func69 rfl (by kernel_rfl) ?_
  refine wp_seq ?_
  refine wp_region_lit ?_
  refine kb HS [.int .i64 x.1, .int .i64 x.2] 79 (fun g => .pointer (some ⟨g, 0, none⟩)) (by kernel_rfl) (by kernel_rfl) ?_
  intro g1 W2 H_
  replace HS : St W (owns []) W2 [blk g1 [.int .i64 x.1, .int .i64 x.2] 79] := H_
  clear H_
  refine ql (.bool false) (by kernel_rfl) (by kernel_rfl) ?_
  refine wpList_nil ?_
  refine x_then ?_
  refine wp_seq ?_
  refine wp_region_lit ?_
  refine ql (.pointer (some ⟨k, 0, none⟩)) (by kernel_rfl) (R_load (p := ⟨kv, 0, none⟩) (by kernel_rfl) (by kernel_rfl) (by kernel_rfl) (HS.old0 hkv)) ?_
  refine ql (.pointer (some ⟨g1, 0, none⟩)) (by kernel_rfl) (by kernel_rfl) ?_
  refine ql (.int .i64 x.1) (by kernel_rfl) (R_load (p := ⟨g1, 0, none⟩) (by kernel_rfl) (by kernel_rfl) (by kernel_rfl) (HS.cell (i := 0) (j := 0) rfl rfl)) ?_
  refine ql (.pointer (some ⟨g1, 1, none⟩)) (by kernel_rfl) (by kernel_rfl) ?_
  refine ql (.int .i64 x.2) (by kernel_rfl) (R_load (p := ⟨g1, 1, none⟩) (by kernel_rfl) (by kernel_rfl) (by kernel_rfl) (HS.cell (i := 0) (j := 1) rfl rfl)) ?_
  refine qc (f := 21) (args := #[.pointer (some ⟨k, 0, none⟩), .int .i64 x.1, .int .i64 x.2]) (by kernel_rfl) (R_call #[.pointer (some ⟨k, 0, none⟩), .int .i64 x.1, .int .i64 x.2] Try.func21 (by kernel_rfl) (by kernel_rfl) (by kernel_rfl)) ?_
  by_cases hkn_x1_x2 : knB n l x.1 x.2 = true
  · skip
    refine (khas k b g cr R rs us n l x.1 x.2 _ (HS.old0 hk0) (HS.old0 hk1) (HS.old0 hk2) (mpl_old hpl HS) (hm.old0 HS) hus hR hn hul).mono ?_
    rintro e W3 ⟨rfl, H_⟩
    rw [hkn_x1_x2]
    refine ⟨_, rfl, ?_⟩
    replace HS : St W (owns []) W3 [blk g1 [.int .i64 x.1, .int .i64 x.2] 79] := HS.join (F := []) (G := []) H_
    clear H_
    refine ql (.bool false) (by kernel_rfl) (by kernel_rfl) ?_
    refine ql (.bool false) (by kernel_rfl) (by kernel_rfl) ?_
    refine wpList_nil ?_
    refine x_then ?_
    refine wp_ret ?_
    refine ret_ (.bool false) (by kernel_rfl) ?_
    replace HS := HS.drop1
    exact ⟨rfl, HS⟩
  · skip
    refine (khas k b g cr R rs us n l x.1 x.2 _ (HS.old0 hk0) (HS.old0 hk1) (HS.old0 hk2) (mpl_old hpl HS) (hm.old0 HS) hus hR hn hul).mono ?_
    rintro e W4 ⟨rfl, H_⟩
    rw [Bool.eq_false_iff.2 hkn_x1_x2]
    refine ⟨_, rfl, ?_⟩
    replace HS : St W (owns []) W4 [blk g1 [.int .i64 x.1, .int .i64 x.2] 79] := HS.join (F := []) (G := []) H_
    clear H_
    refine ql (.bool true) (by kernel_rfl) (by kernel_rfl) ?_
    refine ql (.bool true) (by kernel_rfl) (by kernel_rfl) ?_
    refine wpList_nil ?_
    refine x_then ?_
    refine wp_ret ?_
    refine ret_ (.bool true) (by kernel_rfl) ?_
    replace HS := HS.drop1
    exact ⟨rfl, HS⟩

set_option maxRecDepth 100000 in
set_option maxHeartbeats 1000000 in
theorem kall (k b g cr : Nat) (R : Option Addr) (rs : List Rw) (us : List Int) (n : Int) (l : List (Int × Int)) (Am : Option Addr) (cm : Nat) (m : List (Int × Int)) (W : World) (hk0 : W.cell? ⟨k, 0, none⟩ = some (.int .i64 n)) (hk1 : W.cell? ⟨k, 1, none⟩ = some (.map (some b))) (hk2 : W.cell? ⟨k, 2, none⟩ = some (.pointer (some ⟨g, 0, none⟩))) (hpl : (mpl Try.prog 3 3 b us).P W) (hm : Mr W g R cr (us.length : Int) rs) (hus : us = kUs n l) (hR : MRep rs (us.length : Int) (kLs n l)) (hn : n ≤ 65536) (hul : us.length ≤ 1000) (hra : Rd W Am (cf prC m)) (hlm : m.length ≤ 10000) : Calls Try.prog 38 #[.pointer (some ⟨k, 0, none⟩), .slice Am m.length cm] W fun e W' => e = .returned (.bool (allK n l m)) ∧ St W (owns []) W' [] := by
  have HS : St W (owns []) W [] := St.start W _
  refine calls_enter [.pointer (some ⟨k, 0, none⟩), .slice Am m.length cm, undef, undef, undef, undef, undef, undef, undef] Try.func38 rfl (by kernel_rfl) ?_
  refine wp_seq ?_
  refine wp_region_lit ?_
  refine kb HS [.pointer (some ⟨k, 0, none⟩)] 35 (fun g => .pointer (some ⟨g, 0, none⟩)) (by kernel_rfl) (by kernel_rfl) ?_
  intro g1 W2 H_
  replace HS : St W (owns []) W2 [blk g1 [.pointer (some ⟨k, 0, none⟩)] 35] := H_
  clear H_
  refine ql (.bool false) (by kernel_rfl) (by kernel_rfl) ?_
  refine wpList_nil ?_
  refine x_then ?_
  refine wp_seq ?_
  refine wp_region_lit ?_
  refine ql (.slice Am m.length cm) (by kernel_rfl) (by kernel_rfl) ?_
  refine ql (.func (.func 69) #[] #[.pointer (some ⟨g1, 0, none⟩)]) (by kernel_rfl) (by kernel_rfl) ?_
  refine qc (f := 68) (args := #[.slice Am m.length cm, .func (.func 69) #[] #[.pointer (some ⟨g1, 0, none⟩)]]) (by kernel_rfl) (R_call #[.slice Am m.length cm, .func (.func 69) #[] #[.pointer (some ⟨g1, 0, none⟩)]] Try.func68 (by kernel_rfl) (by kernel_rfl) (by kernel_rfl)) ?_
  by_cases hany : m.any (fun b : Int × Int => !knB n l b.1 b.2) = true
  · skip
    have hKP : ∀ w, Kpt (owns []) W2 w → St W (owns []) w [] ∧ w.cell? ⟨g1, 0, none⟩ = some (.pointer (some ⟨k, 0, none⟩)) := fun w hw => ⟨St.ofK (HS.kept.andNil hw), cell_of_blkP (HS.keepP (F := []) hw (List.mem_of_getElem? (i := 0) rfl)) rfl⟩
    refine (conf 69 #[.pointer (some ⟨g1, 0, none⟩)] (fun b : Int × Int => !knB n l b.1 b.2) Am cm m _ (hra.old0 HS) (by omega) (enters_of Try.func69 (by kernel_rfl) rfl) (fun x w hw => kcl69 k b g cr R rs us n l g1 x w (hKP w hw).2 ((hKP w hw).1.old0 hk0) ((hKP w hw).1.old0 hk1) ((hKP w hw).1.old0 hk2) (mpl_old hpl (hKP w hw).1) (hm.old0 (hKP w hw).1) hus hR hn hul)).mono ?_
    rintro e W3 ⟨rfl, H_⟩
    rw [hany]
    refine ⟨_, rfl, ?_⟩
    replace HS : St W (owns []) W3 [blk g1 [.pointer (some ⟨k, 0, none⟩)] 35] := HS.join (F := []) (G := []) H_
    clear H_
    refine ql (.bool false) (by kernel_rfl) (by kernel_rfl) ?_
    refine ql (.bool false) (by kernel_rfl) (by kernel_rfl) ?_
    refine wpList_nil ?_
    refine x_then ?_
    refine wp_ret ?_
    refine ret_ (.bool false) (by kernel_rfl) ?_
    replace HS := HS.drop1
    exact ⟨by rw [← allK_any, hany]; rfl, HS⟩
  · skip
    have hKP : ∀ w, Kpt (owns []) W2 w → St W (owns []) w [] ∧ w.cell? ⟨g1, 0, none⟩ = some (.pointer (some ⟨k, 0, none⟩)) := fun w hw => ⟨St.ofK (HS.kept.andNil hw), cell_of_blkP (HS.keepP (F := []) hw (List.mem_of_getElem? (i := 0) rfl)) rfl⟩
    refine (conf 69 #[.pointer (some ⟨g1, 0, none⟩)] (fun b : Int × Int => !knB n l b.1 b.2) Am cm m _ (hra.old0 HS) (by omega) (enters_of Try.func69 (by kernel_rfl) rfl) (fun x w hw => kcl69 k b g cr R rs us n l g1 x w (hKP w hw).2 ((hKP w hw).1.old0 hk0) ((hKP w hw).1.old0 hk1) ((hKP w hw).1.old0 hk2) (mpl_old hpl (hKP w hw).1) (hm.old0 (hKP w hw).1) hus hR hn hul)).mono ?_
    rintro e W4 ⟨rfl, H_⟩
    rw [Bool.eq_false_iff.2 hany]
    refine ⟨_, rfl, ?_⟩
    replace HS : St W (owns []) W4 [blk g1 [.pointer (some ⟨k, 0, none⟩)] 35] := HS.join (F := []) (G := []) H_
    clear H_
    refine ql (.bool true) (by kernel_rfl) (by kernel_rfl) ?_
    refine ql (.bool true) (by kernel_rfl) (by kernel_rfl) ?_
    refine wpList_nil ?_
    refine x_then ?_
    refine wp_ret ?_
    refine ret_ (.bool true) (by kernel_rfl) ?_
    replace HS := HS.drop1
    exact ⟨by rw [← allK_any, Bool.eq_false_iff.2 hany]; rfl, HS⟩

theorem kallP (k : Nat) (n : Int) (x : KnX) (l : List (Int × Int)) (Am : Option Addr) (cm : Nat) (m : List (Int × Int)) (W : World) (hP : (many (knE Try.prog 83 3 3 105 98 113 110 k n x)).P W) (hx : x.ok n l) (hn : n ≤ 65536) (hll : l.length ≤ 400) (hra : Rd W Am (cf prC m)) (hlm : m.length ≤ 10000) : Calls Try.prog 38 #[.pointer (some ⟨k, 0, none⟩), .slice Am m.length cm] W fun e W' => e = .returned (.bool (allK n l m)) ∧ St W (owns []) W' [] := by
  obtain ⟨h0, h1, h2, h3, h4⟩ := kn_P hP
  exact kall k x.b x.g x.cr x.R x.rs x.us n l Am cm m W h0 h1 h2 h3 h4 hx.us hx.rep hn (by rw [hx.us]; have := kUs_len n l; omega) hra hlm

set_option maxRecDepth 100000 in
set_option maxHeartbeats 1000000 in
theorem kbnd (k b g cr : Nat) (R : Option Addr) (rs : List Rw) (us : List Int) (n : Int) (l : List (Int × Int)) (W : World) (hk0 : W.cell? ⟨k, 0, none⟩ = some (.int .i64 n)) (hk1 : W.cell? ⟨k, 1, none⟩ = some (.map (some b))) (hk2 : W.cell? ⟨k, 2, none⟩ = some (.pointer (some ⟨g, 0, none⟩))) (hpl : (mpl Try.prog 3 3 b us).P W) (hm : Mr W g R cr (us.length : Int) rs) (hus : us = kUs n l) (hR : MRep rs (us.length : Int) (kLs n l)) (hn : n ≤ 65536) (hul : us.length ≤ 1000) (h0n : 0 ≤ n) (hn12 : n ≤ 12) : Calls Try.prog 41 #[.pointer (some ⟨k, 0, none⟩)] W fun e W' => ∃ A' c', e = .returned (.slice A' (bndL n l).length c') ∧ St W (owns []) W' [row A' ((bndL n l).length) c' (cf prC (bndL n l)) 79 2] := by
  have HS : St W (owns []) W [] := St.start W _
  refine calls_enter [.pointer (some ⟨k, 0, none⟩), undef, undef, undef, undef, undef, undef, undef, undef, undef, undef, undef, undef, undef, undef, undef, undef, undef, undef, undef, undef, undef, undef, undef, undef, undef, undef, undef, undef, undef, undef, undef] Try.func41 rfl (by kernel_rfl) ?_
  refine wp_seq ?_
  refine wp_region_lit ?_
  refine ql (.slice none 0 0) (by kernel_rfl) (by kernel_rfl) ?_
  refine wpList_nil ?_
  refine x_then ?_
  refine wp_seq ?_
  refine wp_region_lit ?_
  refine ql (.slice none 0 0) (by kernel_rfl) (by kernel_rfl) ?_
  refine wpList_nil ?_
  refine x_then ?_
  refine wp_seq ?_
  refine wp_seq ?_
  refine wp_region_lit ?_
  refine ql (.int .i64 1) (by kernel_rfl) (by kernel_rfl) ?_
  refine wpList_nil ?_
  refine x_then ?_
  refine wp_block ?_
  replace HS : St W (owns []) W [row none 0 0 (cf prC ([])) 79 2] := (HS.nilRow 79 2).cast_ (by kernel_rfl)
  refine wp_loop_ghost (fun kq a' w' => ∃ (J1 : Nat → Value) (s : Int) (L6 : List (Int × Int)) (A6 : Option Addr) (c6 : Nat) , a' = Fr [.pointer (some ⟨k, 0, none⟩), undef, .slice none 0 0, .slice A6 L6.length c6, .int .i64 s, undef, (J1 6), (J1 7), (J1 8), (J1 9), (J1 10), (J1 11), (J1 12), (J1 13), (J1 14), (J1 15), (J1 16), (J1 17), (J1 18), (J1 19), (J1 20), (J1 21), (J1 22), (J1 23), (J1 24), (J1 25), (J1 26), (J1 27), (J1 28), (J1 29), (J1 30), undef] ∧ kq = ((n - s).toNat) ∧ (1 ≤ s) ∧ (s ≤ max n 1) ∧ (L6 = bndP n l s) ∧ St W (owns []) w' [row A6 L6.length c6 (cf prC L6) 79 2]) ((n - (1 : Int)).toNat) ⟨(fun k_ : Nat => List.getD [.pointer (some ⟨k, 0, none⟩), undef, .slice none 0 0, .slice none 0 0, .int .i64 1, undef, undef, undef, undef, undef, undef, undef, undef, undef, undef, undef, undef, undef, undef, undef, undef, undef, undef, undef, undef, undef, undef, undef, undef, undef, undef, undef] k_ undef), (1 : Int), [], none, 0, congrArg Fr (by kernel_rfl), rfl, by omega, by omega, (bndP_1 n l).symm, HS⟩ ?_
  clear HS
  intro kq2 a' W3 hrel
  obtain ⟨J1, s, L6, A6, c6, rfl, hk, s0, s1, hL6, HS⟩ := hrel
  refine wp_seq ?_
  refine wp_seq ?_
  refine wp_region_lit ?_
  refine ql (.int .i64 s) (by kernel_rfl) (by kernel_rfl) ?_
  refine ql (.pointer (some ⟨k, 0, none⟩)) (by kernel_rfl) (by kernel_rfl) ?_
  refine qc (f := 36) (args := #[.pointer (some ⟨k, 0, none⟩)]) (by kernel_rfl) (R_call #[.pointer (some ⟨k, 0, none⟩)] Try.func36 (by kernel_rfl) (by kernel_rfl) (by kernel_rfl)) ?_
  refine (klen k n _ (HS.old0 hk0)).mono ?_
  rintro e W4 ⟨rfl, H_⟩
  refine ⟨_, rfl, ?_⟩
  replace HS : St W (owns []) W4 [row A6 L6.length c6 (cf prC L6) 79 2] := HS.join (F := []) (G := []) H_
  clear H_
  by_cases hc5 : s < n
  · skip
    refine ql (.bool true) (by kernel_rfl) (R_bool (p := s < n) (by kernel_rfl) (hc5)) ?_
    refine wpList_nil ?_
    refine x_then ?_
    refine wp_cond_true (by kernel_rfl) ?_
    refine wp_skip ?_
    refine x_then ?_
    refine wp_seq ?_
    refine wp_block ?_
    refine wp_seq ?_
    have hsl := subs_len n l s n
    refine wp_region_lit ?_
    refine ql (.pointer (some ⟨k, 0, none⟩)) (by kernel_rfl) (by kernel_rfl) ?_
    refine ql (.int .i64 s) (by kernel_rfl) (by kernel_rfl) ?_
    refine qc (f := 22) (args := #[.pointer (some ⟨k, 0, none⟩), .int .i64 s]) (by kernel_rfl) (R_call #[.pointer (some ⟨k, 0, none⟩), .int .i64 s] Try.func22 (by kernel_rfl) (by kernel_rfl) (by kernel_rfl)) ?_
    refine (ksubs k b g cr R rs us n l s _ (HS.old0 hk0) (HS.old0 hk1) (HS.old0 hk2) (mpl_old hpl HS) (hm.old0 HS) hus hR hn hul h0n).mono ?_
    rintro e W6 ⟨A7, c7, rfl, H_⟩
    refine ⟨_, rfl, ?_⟩
    replace HS : St W (owns []) W6 [row A7 ((subsL n l s n).length) c7 (ci .i64 (subsL n l s n)) 3 1, row A6 L6.length c6 (cf prC L6) 79 2] := HS.join (F := []) (G := [row A7 ((subsL n l s n).length) c7 (ci .i64 (subsL n l s n)) 3 1]) H_
    clear H_
    refine ql (.int .i64 ((subsL n l s n).length : Int)) (by kernel_rfl) (by kernel_rfl) ?_
    refine ql (.int .i64 0) (by kernel_rfl) (by kernel_rfl) ?_
    refine wpList_nil ?_
    refine x_then ?_
    refine wp_block ?_
    replace HS : St W (owns []) W6 [row A6 L6.length c6 (cf prC L6) 79 2, row A7 ((subsL n l s n).length) c7 (ci .i64 (subsL n l s n)) 3 1] := HS.perm (perm_ [1, 0] (by kernel_rfl) rfl)
    refine wp_loop_ghost (fun kq a' w' => ∃ (J7 : Nat → Value) (j : Int) (L5 : List (Int × Int)) (A5 : Option Addr) (c5 : Nat) , a' = Fr [.pointer (some ⟨k, 0, none⟩), undef, .slice none 0 0, .slice A5 L5.length c5, .int .i64 s, undef, (J7 6), .int .i64 s, .pointer (some ⟨k, 0, none⟩), .int .i64 n, .bool true, (J1 11), (J1 12), .pointer (some ⟨k, 0, none⟩), .int .i64 s, .slice A7 ((subsL n l s n).length) c7, .int .i64 ((subsL n l s n).length : Int), .int .i64 j, (J7 18), (J7 19), (J7 20), (J7 21), (J7 22), (J7 23), (J7 24), (J7 25), (J7 26), (J7 27), (J7 28), (J7 29), (J7 30), undef] ∧ kq = ((subsL n l s n).length - (j).toNat) ∧ (0 ≤ j) ∧ (j ≤ (subsL n l s n).length) ∧ (L5 = bndI n l s j) ∧ St W (owns []) w' [row A5 L5.length c5 (cf prC L5) 79 2, row A7 ((subsL n l s n).length) c7 (ci .i64 (subsL n l s n)) 3 1]) ((subsL n l s n).length - ((0 : Int)).toNat) ⟨(fun k_ : Nat => List.getD [.pointer (some ⟨k, 0, none⟩), undef, .slice none 0 0, .slice A6 L6.length c6, .int .i64 s, undef, (J1 6), .int .i64 s, .pointer (some ⟨k, 0, none⟩), .int .i64 n, .bool true, (J1 11), (J1 12), .pointer (some ⟨k, 0, none⟩), .int .i64 s, .slice A7 ((subsL n l s n).length) c7, .int .i64 ((subsL n l s n).length : Int), .int .i64 0, (J1 18), (J1 19), (J1 20), (J1 21), (J1 22), (J1 23), (J1 24), (J1 25), (J1 26), (J1 27), (J1 28), (J1 29), (J1 30), undef] k_ undef), (0 : Int), L6, A6, c6, congrArg Fr (by kernel_rfl), rfl, by omega, by omega, (by rw [bndI_0]; exact hL6), HS⟩ ?_
    clear HS
    intro kq8 a' W9 hrel
    obtain ⟨J7, j, L5, A5, c5, rfl, hk, j0, j1, hL5, HS⟩ := hrel
    have hbl := bndI_len (n := n) (l := l) (s := s) (j := j) (by omega) hn12 (by omega)
    rw [← hL5] at hbl
    refine wp_seq ?_
    refine wp_region_lit ?_
    by_cases hc10 : j < ((subsL n l s n).length : Int)
    · skip
      refine ql (.bool true) (by kernel_rfl) (R_bool (p := j < ((subsL n l s n).length : Int)) (by kernel_rfl) (hc10)) ?_
      refine wpList_nil ?_
      refine x_then ?_
      refine wp_seq ?_
      refine wp_cond_true (by kernel_rfl) ?_
      refine wp_skip ?_
      refine x_then ?_
      refine wp_seq ?_
      refine wp_block ?_
      refine wp_seq ?_
      have hlx := (mem_rgI.1 (List.mem_filter.1 (mem_rd (L := subsL n l s n) (k := j) j0 (by omega))).1)
      refine wp_region_lit ?_
      obtain ⟨g11, rfl⟩ := St.rsome HS (i := 1) rfl (by omega)
      refine ql (.pointer (some ⟨g11, j.toNat, none⟩)) (by kernel_rfl) (R_index1 (k := .i64) (g := g11) (n := ((subsL n l s n).length)) (c := c7) (i := j) (by kernel_rfl) (by kernel_rfl) Try.underlying22 (by kernel_rfl) (by omega) (by omega)) ?_
      refine ql (.int .i64 (rdI (subsL n l s n) j)) (by kernel_rfl) (R_load (p := ⟨g11, j.toNat, none⟩) (by kernel_rfl) (by kernel_rfl) (by kernel_rfl) (HS.rcell (i := 1) rfl (ci_rd (i := j) (by omega) (by omega)))) ?_
      refine ql (.int .i64 (rdI (subsL n l s n) j)) (by kernel_rfl) (by kernel_rfl) ?_
      refine wpList_nil ?_
      refine x_then ?_
      refine wp_seq ?_
      refine wp_region_lit ?_
      refine ql (.int .i64 (rdI (subsL n l s n) j)) (by kernel_rfl) (by kernel_rfl) ?_
      refine ql (.int .i64 s) (by kernel_rfl) (by kernel_rfl) ?_
      by_cases hc12 : (rdI (subsL n l s n) j) = s
      · skip
        refine ql (.bool false) (by kernel_rfl) (R_beq (b := (rdI (subsL n l s n) j != s)) (by kernel_rfl) (bne_f (hc12))) ?_
        refine wpList_nil ?_
        refine x_then ?_
        refine wp_cond_false (by kernel_rfl) ?_
        refine wp_skip ?_
        refine x_inb ?_
        refine x_then ?_
        refine wp_region_lit ?_
        refine ql (.int .i64 (j + 1)) (by kernel_rfl) (R_int (by kernel_rfl) (w64 (by omega))) ?_
        refine ql (.int .i64 (j + 1)) (by kernel_rfl) (by kernel_rfl) ?_
        refine wpList_nil ?_
        refine x_then ?_
        exact ⟨(subsL n l s n).length - ((j + 1)).toNat, by omega, (fun k_ : Nat => List.getD [.pointer (some ⟨k, 0, none⟩), undef, .slice none 0 0, .slice A5 L5.length c5, .int .i64 s, undef, .int .i64 (rdI (subsL n l s n) j), .int .i64 s, .pointer (some ⟨k, 0, none⟩), .int .i64 n, .bool true, (J1 11), (J1 12), .pointer (some ⟨k, 0, none⟩), .int .i64 s, .slice (some ⟨g11, 0, none⟩) ((subsL n l s n).length) c7, .int .i64 ((subsL n l s n).length : Int), .int .i64 (j + 1), .bool true, .pointer (some ⟨g11, j.toNat, none⟩), .int .i64 (rdI (subsL n l s n) j), .int .i64 (rdI (subsL n l s n) j), .int .i64 s, .bool false, (J7 24), (J7 25), (J7 26), (J7 27), (J7 28), (J7 29), .int .i64 (j + 1), undef] k_ undef), (j + 1), L5, A5, c5, congrArg Fr (by kernel_rfl), rfl, by omega, by omega, (by rw [bndI_f j0 (by omega) (by omega)]; exact hL5), HS⟩
      · skip
        refine ql (.bool true) (by kernel_rfl) (R_beq (b := (rdI (subsL n l s n) j != s)) (by kernel_rfl) (bne_t (hc12))) ?_
        refine wpList_nil ?_
        refine x_then ?_
        refine wp_cond_true (by kernel_rfl) ?_
        refine wp_region_lit ?_
        refine ql (.slice A5 L5.length c5) (by kernel_rfl) (by kernel_rfl) ?_
        refine ql (.int .i64 s) (by kernel_rfl) (by kernel_rfl) ?_
        refine ql (.int .i64 (rdI (subsL n l s n) j)) (by kernel_rfl) (by kernel_rfl) ?_
        refine ql (.agg #[.int .i64 s, .int .i64 (rdI (subsL n l s n) j)]) (by kernel_rfl) (by kernel_rfl) ?_
        refine kl HS 1 [.int .i64 s, .int .i64 (rdI (subsL n l s n) j)] 79 2 (by kernel_rfl) (by kernel_rfl) rfl (by decide) ?_
        intro g13 W14 H_
        replace HS : St W (owns []) W14 [row (some ⟨g13, 0, none⟩) 1 1 (cf prC ([(s, rdI (subsL n l s n) j)])) 79 2, row A5 L5.length c5 (cf prC L5) 79 2, row (some ⟨g11, 0, none⟩) ((subsL n l s n).length) c7 (ci .i64 (subsL n l s n)) 3 1] := H_.cast_ (by kernel_rfl)
        clear H_
        obtain ⟨xs18, xs18_⟩ : ∃ z_ : List (Int × Int), z_ = L5 ++ ([(s, rdI (subsL n l s n) j)]) := ⟨_, rfl⟩
        have xs18l : xs18.length = L5.length + 1 := by rw [xs18_, List.length_append] <;> (try simp only [List.length_cons, List.length_nil]) <;> omega
        refine ka1 HS 1 rfl (Src.of_row HS (i := 0) rfl (cf_one (fun _ => rfl))) [.int .i64 0, .int .i64 0] 16 xs18.length (cf prC xs18) (by omega) (by rw [xs18_, cf_app]) (by kernel_rfl) (by kernel_rfl) (by kernel_rfl) Try.underlying34 (by kernel_rfl) (by kernel_rfl) (by kernel_rfl) (by kernel_rfl) (by decide) (by omega) (by omega) ?_
        intro A15 c16 W17 H_
        replace HS : St W (owns []) W17 [row (some ⟨g13, 0, none⟩) 1 1 (cf prC ([(s, rdI (subsL n l s n) j)])) 79 2, row A15 xs18.length c16 (cf prC xs18) 79 2, row (some ⟨g11, 0, none⟩) ((subsL n l s n).length) c7 (ci .i64 (subsL n l s n)) 3 1] := H_
        clear H_
        refine ql (.slice A15 xs18.length c16) (by kernel_rfl) (by kernel_rfl) ?_
        refine wpList_nil ?_
        refine x_inb ?_
        refine x_then ?_
        refine wp_region_lit ?_
        refine ql (.int .i64 (j + 1)) (by kernel_rfl) (R_int (by kernel_rfl) (w64 (by omega))) ?_
        refine ql (.int .i64 (j + 1)) (by kernel_rfl) (by kernel_rfl) ?_
        refine wpList_nil ?_
        replace HS := HS.drop1
        refine x_then ?_
        exact ⟨(subsL n l s n).length - ((j + 1)).toNat, by omega, (fun k_ : Nat => List.getD [.pointer (some ⟨k, 0, none⟩), undef, .slice none 0 0, .slice A15 xs18.length c16, .int .i64 s, undef, .int .i64 (rdI (subsL n l s n) j), .int .i64 s, .pointer (some ⟨k, 0, none⟩), .int .i64 n, .bool true, (J1 11), (J1 12), .pointer (some ⟨k, 0, none⟩), .int .i64 s, .slice (some ⟨g11, 0, none⟩) ((subsL n l s n).length) c7, .int .i64 ((subsL n l s n).length : Int), .int .i64 (j + 1), .bool true, .pointer (some ⟨g11, j.toNat, none⟩), .int .i64 (rdI (subsL n l s n) j), .int .i64 (rdI (subsL n l s n) j), .int .i64 s, .bool true, .slice A5 L5.length c5, .int .i64 s, .int .i64 (rdI (subsL n l s n) j), .agg #[.int .i64 s, .int .i64 (rdI (subsL n l s n) j)], .slice (some ⟨g13, 0, none⟩) 1 1, .slice A15 xs18.length c16, .int .i64 (j + 1), undef] k_ undef), (j + 1), xs18, A15, c16, congrArg Fr (by kernel_rfl), rfl, by omega, by omega, (by rw [xs18_, bndI_t j0 (by omega) (by omega), hL5]), HS⟩
    · skip
      refine ql (.bool false) (by kernel_rfl) (R_nbool (p := j < ((subsL n l s n).length : Int)) (by kernel_rfl) (hc10)) ?_
      refine wpList_nil ?_
      refine x_then ?_
      refine wp_seq ?_
      refine wp_cond_false (by kernel_rfl) ?_
      refine wp_exit ?_
      refine x_thenE ?_
      refine x_thenE ?_
      refine x_hit ?_
      refine x_inb ?_
      refine x_then ?_
      refine wp_region_lit ?_
      refine ql (.int .i64 s) (by kernel_rfl) (by kernel_rfl) ?_
      refine ql (.int .i64 (s + 1)) (by kernel_rfl) (R_int (by kernel_rfl) (w64 (by omega))) ?_
      refine ql (.int .i64 (s + 1)) (by kernel_rfl) (by kernel_rfl) ?_
      refine wpList_nil ?_
      replace HS : St W (owns []) W9 [row A5 L5.length c5 (cf prC L5) 79 2] := St.tail (F := [row A7 ((subsL n l s n).length) c7 (ci .i64 (subsL n l s n)) 3 1]) (HS.perm (perm_ [1, 0] (by kernel_rfl) rfl))
      refine x_then ?_
      exact ⟨(n - (s + 1)).toNat, by omega, (fun k_ : Nat => List.getD [.pointer (some ⟨k, 0, none⟩), undef, .slice none 0 0, .slice A5 L5.length c5, .int .i64 (s + 1), undef, (J7 6), .int .i64 s, .pointer (some ⟨k, 0, none⟩), .int .i64 n, .bool true, .int .i64 s, .int .i64 (s + 1), .pointer (some ⟨k, 0, none⟩), .int .i64 s, .slice A7 ((subsL n l s n).length) c7, .int .i64 ((subsL n l s n).length : Int), .int .i64 j, .bool false, (J7 19), (J7 20), (J7 21), (J7 22), (J7 23), (J7 24), (J7 25), (J7 26), (J7 27), (J7 28), (J7 29), (J7 30), undef] k_ undef), (s + 1), L5, A5, c5, congrArg Fr (by kernel_rfl), rfl, by omega, by omega, (by rw [hL5]; exact bndI_e s0 (by omega)), HS⟩
  · skip
    refine ql (.bool false) (by kernel_rfl) (R_nbool (p := s < n) (by kernel_rfl) (hc5)) ?_
    refine wpList_nil ?_
    refine x_then ?_
    refine wp_cond_false (by kernel_rfl) ?_
    refine wp_exit ?_
    refine x_thenE ?_
    refine x_thenE ?_
    refine x_hit ?_
    refine x_then ?_
    refine wp_seq ?_
    refine wp_region_lit ?_
    refine ql (.slice A6 L6.length c6) (by kernel_rfl) (by kernel_rfl) ?_
    refine ql (.slice A6 L6.length c6) (by kernel_rfl) (by kernel_rfl) ?_
    refine wpList_nil ?_
    refine x_then ?_
    refine wp_ret ?_
    refine ret_ (.slice A6 L6.length c6) (by kernel_rfl) ?_
    have hq : L6 = bndL n l := hL6.trans (bndP_e s0 (by omega) s1)
    subst hq
    exact ⟨_, _, rfl, HS⟩

theorem kbndP (k : Nat) (n : Int) (x : KnX) (l : List (Int × Int)) (W : World) (hP : (many (knE Try.prog 83 3 3 105 98 113 110 k n x)).P W) (hx : x.ok n l) (hn : n ≤ 65536) (hll : l.length ≤ 400) (h0n : 0 ≤ n) (hn12 : n ≤ 12) : Calls Try.prog 41 #[.pointer (some ⟨k, 0, none⟩)] W fun e W' => ∃ A' c', e = .returned (.slice A' (bndL n l).length c') ∧ St W (owns []) W' [row A' ((bndL n l).length) c' (cf prC (bndL n l)) 79 2] := by
  obtain ⟨h0, h1, h2, h3, h4⟩ := kn_P hP
  exact kbnd k x.b x.g x.cr x.R x.rs x.us n l W h0 h1 h2 h3 h4 hx.us hx.rep hn (by rw [hx.us]; have := kUs_len n l; omega) h0n hn12

set_option maxRecDepth 100000 in
set_option maxHeartbeats 1000000 in
theorem r17b (Al Am : Option Addr) (cl cm : Nat) (l m : List (Int × Int)) (W : World) (hra : Rd W Al (cf prC l)) (hrb : Rd W Am (cf prC m)) (hll : l.length ≤ 10000) (hlm : m.length ≤ 10000) : Calls Try.prog 40 #[.slice Al l.length cl, .slice Am m.length cm] W fun e W' => e = .returned (.bool (decide (l = m))) ∧ St W (owns []) W' [] := by
  have HS : St W (owns []) W [] := St.start W _
  refine calls_enter [.slice Al l.length cl, .slice Am m.length cm, undef, undef, undef, undef, undef, undef, undef, undef, undef, undef, undef, undef, undef, undef, undef, undef, undef, undef, undef, undef, undef, undef, undef, undef] Try.func40 rfl (by kernel_rfl) ?_
  refine wp_seq ?_
  refine wp_region_lit ?_
  refine ql (.bool false) (by kernel_rfl) (by kernel_rfl) ?_
  refine wpList_nil ?_
  refine x_then ?_
  refine wp_seq ?_
  refine wp_seq ?_
  refine wp_region_lit ?_
  refine ql (.slice Al l.length cl) (by kernel_rfl) (by kernel_rfl) ?_
  refine ql (.int .i64 (l.length : Int)) (by kernel_rfl) (by kernel_rfl) ?_
  refine ql (.slice Am m.length cm) (by kernel_rfl) (by kernel_rfl) ?_
  refine ql (.int .i64 (m.length : Int)) (by kernel_rfl) (by kernel_rfl) ?_
  by_cases hc1 : (l.length : Int) = (m.length : Int)
  · skip
    refine ql (.bool false) (by kernel_rfl) (R_beq (b := ((l.length : Int) != (m.length : Int))) (by kernel_rfl) (bne_f (hc1))) ?_
    refine wpList_nil ?_
    refine x_then ?_
    refine wp_cond_false (by kernel_rfl) ?_
    refine wp_skip ?_
    refine x_then ?_
    refine wp_seq ?_
    refine wp_seq ?_
    refine wp_region_lit ?_
    refine ql (.int .i64 0) (by kernel_rfl) (by kernel_rfl) ?_
    refine wpList_nil ?_
    refine x_then ?_
    refine wp_block ?_
    refine wp_loop_ghost (fun kq a' w' => ∃ (J2 : Nat → Value) (k : Int) , a' = Fr [.slice Al l.length cl, .slice Am m.length cm, undef, undef, (J2 4), .int .i64 k, .slice Al l.length cl, .int .i64 (l.length : Int), .slice Am m.length cm, .int .i64 (m.length : Int), .bool false, (J2 11), (J2 12), (J2 13), (J2 14), (J2 15), (J2 16), (J2 17), (J2 18), (J2 19), (J2 20), (J2 21), (J2 22), (J2 23), (J2 24), (J2 25)] ∧ kq = (l.length - (k).toNat) ∧ (0 ≤ k) ∧ (k ≤ l.length) ∧ (eqT2 l m k) ∧ St W (owns []) w' []) (l.length - ((0 : Int)).toNat) ⟨(fun k_ : Nat => List.getD [.slice Al l.length cl, .slice Am m.length cm, undef, undef, .bool false, .int .i64 0, .slice Al l.length cl, .int .i64 (l.length : Int), .slice Am m.length cm, .int .i64 (m.length : Int), .bool false, undef, undef, undef, undef, undef, undef, undef, undef, undef, undef, undef, undef, undef, undef, undef] k_ undef), (0 : Int), congrArg Fr (by kernel_rfl), rfl, by omega, by omega, eqT2_0, HS⟩ ?_
    clear HS
    intro kq3 a' W4 hrel
    obtain ⟨J2, k, rfl, hk, k0, k1, he, HS⟩ := hrel
    refine wp_seq ?_
    refine wp_seq ?_
    refine wp_region_lit ?_
    refine ql (.int .i64 k) (by kernel_rfl) (by kernel_rfl) ?_
    refine ql (.slice Al l.length cl) (by kernel_rfl) (by kernel_rfl) ?_
    refine ql (.int .i64 (l.length : Int)) (by kernel_rfl) (by kernel_rfl) ?_
    by_cases hc5 : k < (l.length : Int)
    · skip
      refine ql (.bool true) (by kernel_rfl) (R_bool (p := k < (l.length : Int)) (by kernel_rfl) (hc5)) ?_
      refine wpList_nil ?_
      refine x_then ?_
      refine wp_cond_true (by kernel_rfl) ?_
      refine wp_skip ?_
      refine x_then ?_
      refine wp_seq ?_
      refine wp_block ?_
      refine wp_seq ?_
      refine rg_still HS 8 (by kernel_rfl) (by kernel_rfl) ?_
      intro W6 H_ HK_
      simp only [List.take_succ_cons, List.take_zero, List.drop_succ_cons, List.drop_zero]
      replace HS : St W (owns []) W6 [] := H_
      clear H_
      clear HK_
      refine qs (.slice Al l.length cl) (by kernel_rfl) (by kernel_rfl) ?_
      refine qs (.int .i64 k) (by kernel_rfl) (by kernel_rfl) ?_
      obtain ⟨ad7, rfl⟩ := Rd.isSome_ hra (by rw [cf_len (z := 2) (fun _ => rfl)]; omega)
      refine qs (.pointer (some (ad7.add (k.toNat * 2)))) (by kernel_rfl) (R_indexA (k := .i64) (p := ad7) (n := l.length) (c := cl) (i := k) (by kernel_rfl) (by kernel_rfl) Try.underlying34 (by kernel_rfl) (by omega) (by omega)) ?_
      refine qs (.agg #[.int .i64 ((gx l k).1), .int .i64 ((gx l k).2)]) (by kernel_rfl) (R_loadN (p := ad7.add (k.toNat * 2)) [.int .i64 ((gx l k).1), .int .i64 ((gx l k).2)] (by kernel_rfl) (by kernel_rfl) (by kernel_rfl) (by kernel_rfl) (HS.oldN (Rd.elem (f := prC) (fun _ => rfl) hra (gx_eq (by omega) (by omega))))) ?_
      refine qs (.slice Am m.length cm) (by kernel_rfl) (by kernel_rfl) ?_
      refine qs (.int .i64 k) (by kernel_rfl) (by kernel_rfl) ?_
      obtain ⟨ad8, rfl⟩ := Rd.isSome_ hrb (by rw [cf_len (z := 2) (fun _ => rfl)]; omega)
      refine qs (.pointer (some (ad8.add (k.toNat * 2)))) (by kernel_rfl) (R_indexA (k := .i64) (p := ad8) (n := m.length) (c := cm) (i := k) (by kernel_rfl) (by kernel_rfl) Try.underlying34 (by kernel_rfl) (by omega) (by omega)) ?_
      refine qs (.agg #[.int .i64 ((gx m k).1), .int .i64 ((gx m k).2)]) (by kernel_rfl) (R_loadN (p := ad8.add (k.toNat * 2)) [.int .i64 ((gx m k).1), .int .i64 ((gx m k).2)] (by kernel_rfl) (by kernel_rfl) (by kernel_rfl) (by kernel_rfl) (HS.oldN (Rd.elem (f := prC) (fun _ => rfl) hrb (gx_eq (by omega) (by omega))))) ?_
      refine wpStill_nil ?_
      by_cases heq : gx l k = gx m k
      · skip
        refine ql (.bool false) (by kernel_rfl) (R_eq (R_neB (t := 79) (e := 3) (gx l k) (gx m k) (by kernel_rfl) (by kernel_rfl) rfl (by kernel_rfl) (by kernel_rfl) (by kernel_rfl) (by kernel_rfl) rfl rfl rfl rfl (by kernel_rfl) (by kernel_rfl) (by kernel_rfl)) (by rw [decide_eq_true heq]; rfl)) ?_
        refine wpList_nil ?_
        refine x_then ?_
        refine wp_cond_false (by kernel_rfl) ?_
        refine wp_skip ?_
        refine x_inb ?_
        refine x_then ?_
        refine wp_region_lit ?_
        refine ql (.int .i64 k) (by kernel_rfl) (by kernel_rfl) ?_
        refine ql (.int .i64 (k + 1)) (by kernel_rfl) (R_int (by kernel_rfl) (w64 (by omega))) ?_
        refine ql (.int .i64 (k + 1)) (by kernel_rfl) (by kernel_rfl) ?_
        refine wpList_nil ?_
        refine x_then ?_
        exact ⟨l.length - (k + 1).toNat, by omega, (fun k_ : Nat => List.getD [.slice (some ad7) l.length cl, .slice (some ad8) m.length cm, undef, undef, (J2 4), .int .i64 (k + 1), .slice (some ad7) l.length cl, .int .i64 (l.length : Int), .slice (some ad8) m.length cm, .int .i64 (m.length : Int), .bool false, .int .i64 k, .slice (some ad7) l.length cl, .int .i64 (l.length : Int), .bool true, .int .i64 k, .int .i64 (k + 1), .slice (some ad7) l.length cl, .int .i64 k, .pointer (some (ad7.add (k.toNat * 2))), .agg #[.int .i64 ((gx l k).1), .int .i64 ((gx l k).2)], .slice (some ad8) m.length cm, .int .i64 k, .pointer (some (ad8.add (k.toNat * 2))), .agg #[.int .i64 ((gx m k).1), .int .i64 ((gx m k).2)], .bool false] k_ undef), k + 1, congrArg Fr (by kernel_rfl), rfl, by omega, by omega, eqT2_step he k0 (by omega) (by omega) heq, HS⟩
      · skip
        refine ql (.bool true) (by kernel_rfl) (R_eq (R_neB (t := 79) (e := 3) (gx l k) (gx m k) (by kernel_rfl) (by kernel_rfl) rfl (by kernel_rfl) (by kernel_rfl) (by kernel_rfl) (by kernel_rfl) rfl rfl rfl rfl (by kernel_rfl) (by kernel_rfl) (by kernel_rfl)) (by rw [decide_eq_false heq]; rfl)) ?_
        refine wpList_nil ?_
        refine x_then ?_
        refine wp_cond_true (by kernel_rfl) ?_
        refine wp_seq ?_
        refine wp_region_lit ?_
        refine ql (.bool false) (by kernel_rfl) (by kernel_rfl) ?_
        refine wpList_nil ?_
        refine x_then ?_
        refine wp_ret ?_
        refine x_inbR ?_
        refine x_thenR ?_
        refine x_thenR ?_
        refine x_inbR ?_
        refine x_thenR ?_
        refine ret_ (.bool false) (by kernel_rfl) ?_
        exact ⟨by rw [decide_eq_false (fun h_ => heq (by rw [h_]))], HS⟩
    · skip
      refine ql (.bool false) (by kernel_rfl) (R_nbool (p := k < (l.length : Int)) (by kernel_rfl) (hc5)) ?_
      refine wpList_nil ?_
      refine x_then ?_
      refine wp_cond_false (by kernel_rfl) ?_
      refine wp_exit ?_
      refine x_thenE ?_
      refine x_thenE ?_
      refine x_hit ?_
      refine x_then ?_
      refine wp_seq ?_
      refine wp_region_lit ?_
      refine ql (.bool true) (by kernel_rfl) (by kernel_rfl) ?_
      refine wpList_nil ?_
      refine x_then ?_
      refine wp_ret ?_
      refine ret_ (.bool true) (by kernel_rfl) ?_
      have hq := eqT2_all he (by omega) (by omega)
      exact ⟨by rw [decide_eq_true hq], HS⟩
  · skip
    refine ql (.bool true) (by kernel_rfl) (R_beq (b := ((l.length : Int) != (m.length : Int))) (by kernel_rfl) (bne_t (hc1))) ?_
    refine wpList_nil ?_
    refine x_then ?_
    refine wp_cond_true (by kernel_rfl) ?_
    refine wp_seq ?_
    refine wp_region_lit ?_
    refine ql (.bool false) (by kernel_rfl) (by kernel_rfl) ?_
    refine wpList_nil ?_
    refine x_then ?_
    refine wp_ret ?_
    refine x_thenR ?_
    refine ret_ (.bool false) (by kernel_rfl) ?_
    exact ⟨by rw [decide_eq_false (by intro h_; subst h_; omega)], HS⟩

open Go.Shelf
set_option maxRecDepth 100000 in
set_option maxHeartbeats 1000000 in
theorem kawake (W : World) : Calls Try.prog 18 #[] W fun e W' => e = .returned (.bool true) ∧ St W (owns []) W' [] := by
  have HS : St W (owns []) W [] := St.start W _
  refine calls_enter [undef, undef, undef, undef, undef, undef, undef, undef, undef, undef, undef, undef, undef, undef, undef, undef, undef, undef, undef, undef, undef, undef, undef, undef, undef, undef] Try.func18 rfl (by kernel_rfl) ?_
  refine wp_seq ?_
  refine wp_region_lit ?_
  refine ql (.bool false) (by kernel_rfl) (by kernel_rfl) ?_
  refine wpList_nil ?_
  refine x_then ?_
  refine wp_seq ?_
  refine wp_region_lit ?_
  refine ql (.agg #[.int .i64 1, .int .i64 2]) (by kernel_rfl) (by kernel_rfl) ?_
  refine ql (.agg #[.int .i64 2, .int .i64 3]) (by kernel_rfl) (by kernel_rfl) ?_
  refine kl HS 2 [.int .i64 1, .int .i64 2, .int .i64 2, .int .i64 3] 79 2 (by kernel_rfl) (by kernel_rfl) rfl (by decide) ?_
  intro g1 W2 H_
  replace HS : St W (owns []) W2 [row (some ⟨g1, 0, none⟩) 2 2 (cf prC ([(1, 2), (2, 3)])) 79 2] := H_.cast_ (by kernel_rfl)
  clear H_
  refine qc (f := 19) (args := #[.int .i64 4, .slice (some ⟨g1, 0, none⟩) 2 2]) (by kernel_rfl) (R_call #[.int .i64 4, .slice (some ⟨g1, 0, none⟩) 2 2] Try.func19 (by kernel_rfl) (by kernel_rfl) (by kernel_rfl)) ?_
  refine (kof 4 (some ⟨g1, 0, none⟩) 2 ([(1, 2), (2, 3)] : List (Int × Int)) _ (Rd.row HS (i := 0) rfl) (by first | omega | decide | (rw [List.length_append]; omega)) (by omega) (by omega)).mono ?_
  rintro e W6 ⟨k3, x4, rfl, H_, hok5⟩
  refine ⟨_, rfl, ?_⟩
  replace HS : St W (owns []) W6 [many (knE Try.prog 83 3 3 105 98 113 110 k3 4 x4), row (some ⟨g1, 0, none⟩) 2 2 (cf prC ([(1, 2), (2, 3)])) 79 2] := HS.join (F := []) (G := [many (knE Try.prog 83 3 3 105 98 113 110 k3 4 x4)]) H_
  clear H_
  refine ql (.pointer (some ⟨k3, 0, none⟩)) (by kernel_rfl) (by kernel_rfl) ?_
  refine wpList_nil ?_
  refine x_then ?_
  refine wp_seq ?_
  refine wp_region_lit ?_
  refine ql (.pointer (some ⟨k3, 0, none⟩)) (by kernel_rfl) (by kernel_rfl) ?_
  refine qc (f := 21) (args := #[.pointer (some ⟨k3, 0, none⟩), .int .i64 1, .int .i64 3]) (by kernel_rfl) (R_call #[.pointer (some ⟨k3, 0, none⟩), .int .i64 1, .int .i64 3] Try.func21 (by kernel_rfl) (by kernel_rfl) (by kernel_rfl)) ?_
  refine (khasP k3 4 x4 ([(1, 2), (2, 3)] : List (Int × Int)) 1 3 _ (HS.hasP (i := 0) rfl) hok5 (by omega) (by first | omega | decide | (rw [List.length_append]; omega))).mono ?_
  rintro e W7 ⟨rfl, H_⟩
  rw [show knB 4 [(1, 2), (2, 3)] 1 3 = true from by kernel_rfl]
  refine ⟨_, rfl, ?_⟩
  replace HS : St W (owns []) W7 [many (knE Try.prog 83 3 3 105 98 113 110 k3 4 x4), row (some ⟨g1, 0, none⟩) 2 2 (cf prC ([(1, 2), (2, 3)])) 79 2] := HS.join (F := []) (G := []) H_
  clear H_
  refine ql (.bool true) (by kernel_rfl) (by kernel_rfl) ?_
  refine ql (.pointer (some ⟨k3, 0, none⟩)) (by kernel_rfl) (by kernel_rfl) ?_
  refine qc (f := 21) (args := #[.pointer (some ⟨k3, 0, none⟩), .int .i64 3, .int .i64 1]) (by kernel_rfl) (R_call #[.pointer (some ⟨k3, 0, none⟩), .int .i64 3, .int .i64 1] Try.func21 (by kernel_rfl) (by kernel_rfl) (by kernel_rfl)) ?_
  refine (khasP k3 4 x4 ([(1, 2), (2, 3)] : List (Int × Int)) 3 1 _ (HS.hasP (i := 0) rfl) hok5 (by omega) (by first | omega | decide | (rw [List.length_append]; omega))).mono ?_
  rintro e W8 ⟨rfl, H_⟩
  rw [show knB 4 [(1, 2), (2, 3)] 3 1 = false from by kernel_rfl]
  refine ⟨_, rfl, ?_⟩
  replace HS : St W (owns []) W8 [many (knE Try.prog 83 3 3 105 98 113 110 k3 4 x4), row (some ⟨g1, 0, none⟩) 2 2 (cf prC ([(1, 2), (2, 3)])) 79 2] := HS.join (F := []) (G := []) H_
  clear H_
  refine ql (.bool true) (by kernel_rfl) (by kernel_rfl) ?_
  refine ql (.bool true) (by kernel_rfl) (by kernel_rfl) ?_
  refine ql (.bool true) (by kernel_rfl) (by kernel_rfl) ?_
  refine ql (.pointer (some ⟨k3, 0, none⟩)) (by kernel_rfl) (by kernel_rfl) ?_
  refine qc (f := 21) (args := #[.pointer (some ⟨k3, 0, none⟩), .int .i64 0, .int .i64 3]) (by kernel_rfl) (R_call #[.pointer (some ⟨k3, 0, none⟩), .int .i64 0, .int .i64 3] Try.func21 (by kernel_rfl) (by kernel_rfl) (by kernel_rfl)) ?_
  refine (khasP k3 4 x4 ([(1, 2), (2, 3)] : List (Int × Int)) 0 3 _ (HS.hasP (i := 0) rfl) hok5 (by omega) (by first | omega | decide | (rw [List.length_append]; omega))).mono ?_
  rintro e W9 ⟨rfl, H_⟩
  rw [show knB 4 [(1, 2), (2, 3)] 0 3 = true from by kernel_rfl]
  refine ⟨_, rfl, ?_⟩
  replace HS : St W (owns []) W9 [many (knE Try.prog 83 3 3 105 98 113 110 k3 4 x4), row (some ⟨g1, 0, none⟩) 2 2 (cf prC ([(1, 2), (2, 3)])) 79 2] := HS.join (F := []) (G := []) H_
  clear H_
  refine ql (.bool true) (by kernel_rfl) (by kernel_rfl) ?_
  refine ql (.bool true) (by kernel_rfl) (by kernel_rfl) ?_
  refine ql (.pointer (some ⟨k3, 0, none⟩)) (by kernel_rfl) (by kernel_rfl) ?_
  refine qc (f := 41) (args := #[.pointer (some ⟨k3, 0, none⟩)]) (by kernel_rfl) (R_call #[.pointer (some ⟨k3, 0, none⟩)] Try.func41 (by kernel_rfl) (by kernel_rfl) (by kernel_rfl)) ?_
  have hbl : bndL 4 [(1, 2), (2, 3)] = [(1, 2), (1, 3), (2, 3)] := by kernel_rfl
  refine (kbndP k3 4 x4 ([(1, 2), (2, 3)] : List (Int × Int)) _ (HS.hasP (i := 0) rfl) hok5 (by omega) (by first | omega | decide | (rw [List.length_append]; omega)) (by decide) (by decide)).mono ?_
  rintro e W12 ⟨A10, c11, rfl, H_⟩
  rw [hbl] at H_ ⊢
  refine ⟨_, rfl, ?_⟩
  replace HS : St W (owns []) W12 [row A10 (([(1, 2), (1, 3), (2, 3)] : List (Int × Int)).length) c11 (cf prC ([(1, 2), (1, 3), (2, 3)] : List (Int × Int))) 79 2, many (knE Try.prog 83 3 3 105 98 113 110 k3 4 x4), row (some ⟨g1, 0, none⟩) 2 2 (cf prC ([(1, 2), (2, 3)])) 79 2] := HS.join (F := []) (G := [row A10 (([(1, 2), (1, 3), (2, 3)] : List (Int × Int)).length) c11 (cf prC ([(1, 2), (1, 3), (2, 3)] : List (Int × Int))) 79 2]) H_
  clear H_
  refine ql (.agg #[.int .i64 1, .int .i64 2]) (by kernel_rfl) (by kernel_rfl) ?_
  refine ql (.agg #[.int .i64 1, .int .i64 3]) (by kernel_rfl) (by kernel_rfl) ?_
  refine ql (.agg #[.int .i64 2, .int .i64 3]) (by kernel_rfl) (by kernel_rfl) ?_
  refine kl HS 3 [.int .i64 1, .int .i64 2, .int .i64 1, .int .i64 3, .int .i64 2, .int .i64 3] 79 2 (by kernel_rfl) (by kernel_rfl) rfl (by decide) ?_
  intro g13 W14 H_
  replace HS : St W (owns []) W14 [row (some ⟨g13, 0, none⟩) 3 3 (cf prC ([(1, 2), (1, 3), (2, 3)])) 79 2, row A10 (([(1, 2), (1, 3), (2, 3)] : List (Int × Int)).length) c11 (cf prC ([(1, 2), (1, 3), (2, 3)] : List (Int × Int))) 79 2, many (knE Try.prog 83 3 3 105 98 113 110 k3 4 x4), row (some ⟨g1, 0, none⟩) 2 2 (cf prC ([(1, 2), (2, 3)])) 79 2] := H_.cast_ (by kernel_rfl)
  clear H_
  refine qc (f := 40) (args := #[.slice A10 (([(1, 2), (1, 3), (2, 3)] : List (Int × Int)).length) c11, .slice (some ⟨g13, 0, none⟩) 3 3]) (by kernel_rfl) (R_call #[.slice A10 (([(1, 2), (1, 3), (2, 3)] : List (Int × Int)).length) c11, .slice (some ⟨g13, 0, none⟩) 3 3] Try.func40 (by kernel_rfl) (by kernel_rfl) (by kernel_rfl)) ?_
  refine (r17b A10 (some ⟨g13, 0, none⟩) c11 3 ([(1, 2), (1, 3), (2, 3)] : List (Int × Int)) ([(1, 2), (1, 3), (2, 3)] : List (Int × Int)) _ (Rd.row HS (i := 1) rfl) (Rd.row HS (i := 0) rfl) (by decide) (by decide)).mono ?_
  rintro e W15 ⟨rfl, H_⟩
  rw [decide_eq_true rfl]
  refine ⟨_, rfl, ?_⟩
  replace HS : St W (owns []) W15 [row (some ⟨g13, 0, none⟩) 3 3 (cf prC ([(1, 2), (1, 3), (2, 3)])) 79 2, row A10 (([(1, 2), (1, 3), (2, 3)] : List (Int × Int)).length) c11 (cf prC ([(1, 2), (1, 3), (2, 3)] : List (Int × Int))) 79 2, many (knE Try.prog 83 3 3 105 98 113 110 k3 4 x4), row (some ⟨g1, 0, none⟩) 2 2 (cf prC ([(1, 2), (2, 3)])) 79 2] := HS.join (F := []) (G := []) H_
  clear H_
  refine ql (.bool true) (by kernel_rfl) (by kernel_rfl) ?_
  refine ql (.bool true) (by kernel_rfl) (by kernel_rfl) ?_
  refine wpList_nil ?_
  refine x_then ?_
  refine wp_ret ?_
  refine ret_ (.bool true) (by kernel_rfl) ?_
  replace HS := HS.drop1
  replace HS := HS.drop1
  replace HS := HS.drop1
  replace HS := HS.drop1
  exact ⟨rfl, HS⟩


end Go.Proofs.Ytdiodmdohkjafaa.GDeclTells
