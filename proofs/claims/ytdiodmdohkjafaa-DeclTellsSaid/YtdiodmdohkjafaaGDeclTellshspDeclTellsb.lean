/- Written for this claim by gp.py, a program of this session's, over the kit's print. Lean checks it. -/
import Derived.Test.YtdiodmdohkjafaaGDeclTellsx0
import Derived.Test.YtdiodmdohkjafaaGDeclTellshx
import Derived.Test.YtdiodmdohkjafaaGDeclTellshspDeclTellsa
import Derived.WalkKit
import Derived.StillTailTactics
import Derived.Deep.LoopGhost
import Derived.KernelRfl
import Derived.Deep.OwnRows
import Derived.Laws.OwnMore
import Derived.Laws.MakeOwn
import Derived.Maps.AppendAt
import Derived.OrdersHeld
import Derived.Lib.TrailingZeros
import Derived.Laws.Bits64b
import Derived.Laws.BitsLemmas
import Derived.Laws.Entries
import Derived.RangeFuncWrites
import Derived.RangeFuncLeaves
import Derived.RangeFuncCalls
import Derived.Shelf.Abstract
import Derived.Laws.CopyRow
import Derived.Lib.Overlaps
import Derived.Lib.AppendZerosOnto
import Derived.Lib.SliceRun
import Derived.Laws.IdiomCopy
import Derived.ArgAppend
import Derived.Conc.EntryLaws
import Derived.Maps.OwnSet
import Derived.Maps.Keyed
import Derived.Maps.Views
import Derived.Laws.StructEq
import Derived.ChangeKeysEq
namespace Go.Proofs.Ytdiodmdohkjafaa.GDeclTells
open Go.RowKit Go.Proofs.YtdiodmdohkjafaaW.PrintWords Go.Proofs.YtdiodmdohkjafaaW.PrintLast Go.Proofs.YtdiodmdohkjafaaW.PrintMore
attribute [local go_sem] max2_int min2_int max_two min_two max_three min_three max_four min_four   -- for this text's walks alone
set_option linter.unusedVariables false
set_option linter.unusedSimpArgs false

--import Derived.WalkKit
--import Derived.StillTailTactics
--import Derived.Deep.LoopGhost
--import Derived.KernelRfl
--import Derived.Deep.OwnRows
--import Derived.Laws.OwnMore
--import Derived.Laws.MakeOwn
--import Derived.Maps.AppendAt
--import Derived.OrdersHeld
--import Derived.Lib.TrailingZeros
--import Derived.Laws.Bits64b
--import Derived.Laws.BitsLemmas
--import Derived.Laws.Entries
--import Derived.RangeFuncWrites
--import Derived.RangeFuncLeaves
--import Derived.RangeFuncCalls
--import Derived.Shelf.Abstract
--import Derived.Laws.CopyRow
--import Derived.Lib.Overlaps
--import Derived.Lib.AppendZerosOnto
--import Derived.Lib.SliceRun
--import Derived.Laws.IdiomCopy
--import Derived.ArgAppend
--import Derived.Conc.EntryLaws
--import Derived.Maps.OwnSet
--import Derived.Maps.Keyed
--import Derived.Maps.Views
--import Derived.Laws.StructEq
--import Derived.ChangeKeysEq
attribute [local irreducible] wpStill wpList Code.wp TA
open Go.Shelf

set_option maxRecDepth 100000 in
set_option maxHeartbeats 1000000 in
theorem ones64 (x : Nat) (W : World) (hx : x < 18446744073709551616) : Calls Try.prog 89 #[.int .u64 (x : Int)] W fun e W' => e = .returned (.int .i64 ((pc 64 x : Nat) : Int)) ∧ St W (owns []) W' [] := by
  have HS : St W (owns []) W [] := St.start W _
  refine calls_enter [.int .u64 (x : Int), undef, undef, undef, undef, undef, undef, undef, undef, undef, undef, undef, undef, undef, undef, undef, undef, undef, undef, undef, undef, undef, undef, undef, undef, undef, undef, undef, undef, undef, undef, undef, undef, undef, undef] Try.func89 rfl (by kernel_rfl) ?_
  refine wp_seq ?_
  refine wp_region_lit ?_
  refine ql (.int .i64 0) (by kernel_rfl) (by kernel_rfl) ?_
  refine wpList_nil ?_
  refine x_then ?_
  refine wp_seq ?_
  refine wp_region_lit ?_
  refine ql (.int .u64 (x : Int)) (by kernel_rfl) (by kernel_rfl) ?_
  obtain ⟨v1, hv1⟩ : ∃ z_ : Nat, z_ = x >>> 1 := ⟨_, rfl⟩
  have hbv1 : v1 ≤ x := by rw [hv1]; exact Nat.shiftRight_le _ _
  refine ql (.int .u64 (v1 : Int)) (by kernel_rfl) (by rw [hv1]; exact R_shrN (k2 := .u64) (m := x) (k := 1) (by kernel_rfl) (by kernel_rfl) (by omega) (by omega)) ?_
  obtain ⟨v2, hv2⟩ : ∃ z_ : Nat, z_ = v1 &&& 6148914691236517205 := ⟨_, rfl⟩
  have hbv2 : v2 ≤ 6148914691236517205 := by rw [hv2]; exact Nat.and_le_right
  refine ql (.int .u64 (v2 : Int)) (by kernel_rfl) (by rw [hv2]; exact R_andN (m := v1) (k := 6148914691236517205) (by kernel_rfl) (by kernel_rfl) (by omega) (by omega)) ?_
  refine ql (.int .u64 (x : Int)) (by kernel_rfl) (by kernel_rfl) ?_
  obtain ⟨v3, hv3⟩ : ∃ z_ : Nat, z_ = x &&& 6148914691236517205 := ⟨_, rfl⟩
  have hbv3 : v3 ≤ 6148914691236517205 := by rw [hv3]; exact Nat.and_le_right
  refine ql (.int .u64 (v3 : Int)) (by kernel_rfl) (by rw [hv3]; exact R_andN (m := x) (k := 6148914691236517205) (by kernel_rfl) (by kernel_rfl) (by omega) (by omega)) ?_
  obtain ⟨v4, hv4⟩ : ∃ z_ : Nat, z_ = v2 + v3 := ⟨_, rfl⟩
  refine ql (.int .u64 (v4 : Int)) (by kernel_rfl) (by rw [hv4]; exact R_addN (m := v2) (k := v3) (by kernel_rfl) (by kernel_rfl) (by omega)) ?_
  refine ql (.int .u64 (v4 : Int)) (by kernel_rfl) (by kernel_rfl) ?_
  refine wpList_nil ?_
  refine x_then ?_
  refine wp_seq ?_
  refine wp_region_lit ?_
  refine ql (.int .u64 (v4 : Int)) (by kernel_rfl) (by kernel_rfl) ?_
  obtain ⟨v5, hv5⟩ : ∃ z_ : Nat, z_ = v4 >>> 2 := ⟨_, rfl⟩
  have hbv5 : v5 ≤ v4 := by rw [hv5]; exact Nat.shiftRight_le _ _
  refine ql (.int .u64 (v5 : Int)) (by kernel_rfl) (by rw [hv5]; exact R_shrN (k2 := .u64) (m := v4) (k := 2) (by kernel_rfl) (by kernel_rfl) (by omega) (by omega)) ?_
  obtain ⟨v6, hv6⟩ : ∃ z_ : Nat, z_ = v5 &&& 3689348814741910323 := ⟨_, rfl⟩
  have hbv6 : v6 ≤ 3689348814741910323 := by rw [hv6]; exact Nat.and_le_right
  refine ql (.int .u64 (v6 : Int)) (by kernel_rfl) (by rw [hv6]; exact R_andN (m := v5) (k := 3689348814741910323) (by kernel_rfl) (by kernel_rfl) (by omega) (by omega)) ?_
  refine ql (.int .u64 (v4 : Int)) (by kernel_rfl) (by kernel_rfl) ?_
  obtain ⟨v7, hv7⟩ : ∃ z_ : Nat, z_ = v4 &&& 3689348814741910323 := ⟨_, rfl⟩
  have hbv7 : v7 ≤ 3689348814741910323 := by rw [hv7]; exact Nat.and_le_right
  refine ql (.int .u64 (v7 : Int)) (by kernel_rfl) (by rw [hv7]; exact R_andN (m := v4) (k := 3689348814741910323) (by kernel_rfl) (by kernel_rfl) (by omega) (by omega)) ?_
  obtain ⟨v8, hv8⟩ : ∃ z_ : Nat, z_ = v6 + v7 := ⟨_, rfl⟩
  refine ql (.int .u64 (v8 : Int)) (by kernel_rfl) (by rw [hv8]; exact R_addN (m := v6) (k := v7) (by kernel_rfl) (by kernel_rfl) (by omega)) ?_
  refine ql (.int .u64 (v8 : Int)) (by kernel_rfl) (by kernel_rfl) ?_
  refine wpList_nil ?_
  refine x_then ?_
  refine wp_seq ?_
  refine wp_region_lit ?_
  refine ql (.int .u64 (v8 : Int)) (by kernel_rfl) (by kernel_rfl) ?_
  obtain ⟨v9, hv9⟩ : ∃ z_ : Nat, z_ = v8 >>> 4 := ⟨_, rfl⟩
  have hbv9 : v9 ≤ v8 := by rw [hv9]; exact Nat.shiftRight_le _ _
  refine ql (.int .u64 (v9 : Int)) (by kernel_rfl) (by rw [hv9]; exact R_shrN (k2 := .u64) (m := v8) (k := 4) (by kernel_rfl) (by kernel_rfl) (by omega) (by omega)) ?_
  refine ql (.int .u64 (v8 : Int)) (by kernel_rfl) (by kernel_rfl) ?_
  obtain ⟨v10, hv10⟩ : ∃ z_ : Nat, z_ = v9 + v8 := ⟨_, rfl⟩
  refine ql (.int .u64 (v10 : Int)) (by kernel_rfl) (by rw [hv10]; exact R_addN (m := v9) (k := v8) (by kernel_rfl) (by kernel_rfl) (by omega)) ?_
  obtain ⟨v11, hv11⟩ : ∃ z_ : Nat, z_ = v10 &&& 1085102592571150095 := ⟨_, rfl⟩
  have hbv11 : v11 ≤ 1085102592571150095 := by rw [hv11]; exact Nat.and_le_right
  refine ql (.int .u64 (v11 : Int)) (by kernel_rfl) (by rw [hv11]; exact R_andN (m := v10) (k := 1085102592571150095) (by kernel_rfl) (by kernel_rfl) (by omega) (by omega)) ?_
  refine ql (.int .u64 (v11 : Int)) (by kernel_rfl) (by kernel_rfl) ?_
  refine wpList_nil ?_
  refine x_then ?_
  refine wp_seq ?_
  refine wp_region_lit ?_
  refine ql (.int .u64 (v11 : Int)) (by kernel_rfl) (by kernel_rfl) ?_
  refine ql (.int .u64 (v11 : Int)) (by kernel_rfl) (by kernel_rfl) ?_
  obtain ⟨v12, hv12⟩ : ∃ z_ : Nat, z_ = v11 >>> 8 := ⟨_, rfl⟩
  have hbv12 : v12 ≤ v11 := by rw [hv12]; exact Nat.shiftRight_le _ _
  refine ql (.int .u64 (v12 : Int)) (by kernel_rfl) (by rw [hv12]; exact R_shrN (k2 := .u64) (m := v11) (k := 8) (by kernel_rfl) (by kernel_rfl) (by omega) (by omega)) ?_
  obtain ⟨v13, hv13⟩ : ∃ z_ : Nat, z_ = v11 + v12 := ⟨_, rfl⟩
  refine ql (.int .u64 (v13 : Int)) (by kernel_rfl) (by rw [hv13]; exact R_addN (m := v11) (k := v12) (by kernel_rfl) (by kernel_rfl) (by omega)) ?_
  refine ql (.int .u64 (v13 : Int)) (by kernel_rfl) (by kernel_rfl) ?_
  refine wpList_nil ?_
  refine x_then ?_
  refine wp_seq ?_
  refine wp_region_lit ?_
  refine ql (.int .u64 (v13 : Int)) (by kernel_rfl) (by kernel_rfl) ?_
  refine ql (.int .u64 (v13 : Int)) (by kernel_rfl) (by kernel_rfl) ?_
  obtain ⟨v14, hv14⟩ : ∃ z_ : Nat, z_ = v13 >>> 16 := ⟨_, rfl⟩
  have hbv14 : v14 ≤ v13 := by rw [hv14]; exact Nat.shiftRight_le _ _
  refine ql (.int .u64 (v14 : Int)) (by kernel_rfl) (by rw [hv14]; exact R_shrN (k2 := .u64) (m := v13) (k := 16) (by kernel_rfl) (by kernel_rfl) (by omega) (by omega)) ?_
  obtain ⟨v15, hv15⟩ : ∃ z_ : Nat, z_ = v13 + v14 := ⟨_, rfl⟩
  refine ql (.int .u64 (v15 : Int)) (by kernel_rfl) (by rw [hv15]; exact R_addN (m := v13) (k := v14) (by kernel_rfl) (by kernel_rfl) (by omega)) ?_
  refine ql (.int .u64 (v15 : Int)) (by kernel_rfl) (by kernel_rfl) ?_
  refine wpList_nil ?_
  refine x_then ?_
  refine wp_seq ?_
  refine wp_region_lit ?_
  refine ql (.int .u64 (v15 : Int)) (by kernel_rfl) (by kernel_rfl) ?_
  refine ql (.int .u64 (v15 : Int)) (by kernel_rfl) (by kernel_rfl) ?_
  obtain ⟨v16, hv16⟩ : ∃ z_ : Nat, z_ = v15 >>> 32 := ⟨_, rfl⟩
  have hbv16 : v16 ≤ v15 := by rw [hv16]; exact Nat.shiftRight_le _ _
  refine ql (.int .u64 (v16 : Int)) (by kernel_rfl) (by rw [hv16]; exact R_shrN (k2 := .u64) (m := v15) (k := 32) (by kernel_rfl) (by kernel_rfl) (by omega) (by omega)) ?_
  obtain ⟨v17, hv17⟩ : ∃ z_ : Nat, z_ = v15 + v16 := ⟨_, rfl⟩
  refine ql (.int .u64 (v17 : Int)) (by kernel_rfl) (by rw [hv17]; exact R_addN (m := v15) (k := v16) (by kernel_rfl) (by kernel_rfl) (by omega)) ?_
  refine ql (.int .u64 (v17 : Int)) (by kernel_rfl) (by kernel_rfl) ?_
  refine wpList_nil ?_
  refine x_then ?_
  refine wp_seq ?_
  refine wp_region_lit ?_
  refine ql (.int .u64 (v17 : Int)) (by kernel_rfl) (by kernel_rfl) ?_
  refine ql (.int .i64 (v17 : Int)) (by kernel_rfl) (R_int (by kernel_rfl) (w64 (by omega))) ?_
  refine ql (.int .i64 ((v17 : Int) % 128)) (by kernel_rfl) (R_and127 (by kernel_rfl) (by kernel_rfl) (by omega) (by omega)) ?_
  refine ql (.int .i64 ((v17 : Int) % 128)) (by kernel_rfl) (by kernel_rfl) ?_
  refine wpList_nil ?_
  refine x_then ?_
  refine wp_ret ?_
  refine ret_ (.int .i64 ((v17 : Int) % 128)) (by kernel_rfl) ?_
  have hX : (v17 : Int) % 128 = ((onesC x : Nat) : Int) := by unfold onesC; simp only [hv1, hv2, hv3, hv4, hv5, hv6, hv7, hv8, hv9, hv10, hv11, hv12, hv13, hv14, hv15, hv16, hv17]; rfl
  rw [onesC_eq hx] at hX
  exact ⟨by rw [hX], HS⟩

set_option maxRecDepth 100000 in
set_option maxHeartbeats 1000000 in
theorem dsize (g : Nat) (n : Int) (W : World) (hz1 : W.cell? ⟨g, 1, none⟩ = some (.int .i64 n)) : Calls Try.prog 94 #[.pointer (some ⟨g, 0, none⟩)] W fun e W' => e = .returned (.int .i64 n) ∧ St W (owns []) W' [] := by
  have HS : St W (owns []) W [] := St.start W _
  refine calls_enter [.pointer (some ⟨g, 0, none⟩), undef, undef, undef, undef, undef, undef, undef, undef] Try.func94 rfl (by kernel_rfl) ?_
  refine wp_seq ?_
  refine wp_region_lit ?_
  refine ql (.int .i64 0) (by kernel_rfl) (by kernel_rfl) ?_
  refine wpList_nil ?_
  refine x_then ?_
  refine wp_seq ?_
  refine wp_seq ?_
  refine wp_region_lit ?_
  refine ql (.pointer (some ⟨g, 0, none⟩)) (by kernel_rfl) (by kernel_rfl) ?_
  refine ql (.bool false) (by kernel_rfl) (by kernel_rfl) ?_
  refine wpList_nil ?_
  refine x_then ?_
  refine wp_cond_false (by kernel_rfl) ?_
  refine wp_skip ?_
  refine x_then ?_
  refine wp_seq ?_
  refine wp_region_lit ?_
  refine ql (.pointer (some ⟨g, 0, none⟩)) (by kernel_rfl) (by kernel_rfl) ?_
  refine ql (.pointer (some ⟨g, 0, none⟩)) (by kernel_rfl) (by kernel_rfl) ?_
  refine ql (.pointer (some ⟨g, 1, none⟩)) (by kernel_rfl) (by kernel_rfl) ?_
  refine ql (.int .i64 n) (by kernel_rfl) (R_load (p := ⟨g, 1, none⟩) (by kernel_rfl) (by kernel_rfl) (by kernel_rfl) (HS.old0 hz1)) ?_
  refine ql (.int .i64 n) (by kernel_rfl) (by kernel_rfl) ?_
  refine wpList_nil ?_
  refine x_then ?_
  refine wp_ret ?_
  refine ret_ (.int .i64 n) (by kernel_rfl) ?_
  exact ⟨rfl, HS⟩

set_option maxRecDepth 100000 in
set_option maxHeartbeats 1000000 in
theorem dsize_nil (W : World) : Calls Try.prog 94 #[.pointer none] W fun e W' => e = .returned (.int .i64 0) ∧ St W (owns []) W' [] := by
  have HS : St W (owns []) W [] := St.start W _
  refine calls_enter [.pointer none, undef, undef, undef, undef, undef, undef, undef, undef] Try.func94 rfl (by kernel_rfl) ?_
  refine wp_seq ?_
  refine wp_region_lit ?_
  refine ql (.int .i64 0) (by kernel_rfl) (by kernel_rfl) ?_
  refine wpList_nil ?_
  refine x_then ?_
  refine wp_seq ?_
  refine wp_seq ?_
  refine wp_region_lit ?_
  refine ql (.pointer none) (by kernel_rfl) (by kernel_rfl) ?_
  refine ql (.bool true) (by kernel_rfl) (by kernel_rfl) ?_
  refine wpList_nil ?_
  refine x_then ?_
  refine wp_cond_true (by kernel_rfl) ?_
  refine wp_seq ?_
  refine wp_region_lit ?_
  refine ql (.int .i64 0) (by kernel_rfl) (by kernel_rfl) ?_
  refine wpList_nil ?_
  refine x_then ?_
  refine wp_ret ?_
  refine x_thenR ?_
  refine ret_ (.int .i64 0) (by kernel_rfl) ?_
  exact ⟨rfl, HS⟩

set_option maxRecDepth 100000 in
set_option maxHeartbeats 1000000 in
theorem dis_t (g : Nat) (n i : Int) (W : World) (hz1 : W.cell? ⟨g, 1, none⟩ = some (.int .i64 n)) (h0 : 0 ≤ i) (h1 : i < n) : Calls Try.prog 87 #[.pointer (some ⟨g, 0, none⟩), .int .i64 i] W fun e W' => e = .returned (.bool true) ∧ St W (owns []) W' [] := by
  have HS : St W (owns []) W [] := St.start W _
  refine calls_enter [.pointer (some ⟨g, 0, none⟩), .int .i64 i, undef, undef, undef, undef, undef, undef, undef, undef, undef, undef, undef] Try.func87 rfl (by kernel_rfl) ?_
  refine wp_seq ?_
  refine wp_region_lit ?_
  refine ql (.bool false) (by kernel_rfl) (by kernel_rfl) ?_
  refine wpList_nil ?_
  refine x_then ?_
  refine wp_seq ?_
  refine wp_region_lit ?_
  refine ql (.int .i64 i) (by kernel_rfl) (by kernel_rfl) ?_
  by_cases hc1 : i ≥ (0 : Int)
  · skip
    refine ql (.bool true) (by kernel_rfl) (R_bool (p := i ≥ (0 : Int)) (by kernel_rfl) (hc1)) ?_
    refine ql (.bool true) (by kernel_rfl) (by kernel_rfl) ?_
    refine ql (.int .i64 i) (by kernel_rfl) (by kernel_rfl) ?_
    refine ql (.pointer (some ⟨g, 0, none⟩)) (by kernel_rfl) (by kernel_rfl) ?_
    refine qc (f := 94) (args := #[.pointer (some ⟨g, 0, none⟩)]) (by kernel_rfl) (R_call #[.pointer (some ⟨g, 0, none⟩)] Try.func94 (by kernel_rfl) (by kernel_rfl) (by kernel_rfl)) ?_
    refine (dsize _ _ _ (HS.old0 hz1)).mono ?_
    rintro e W2 ⟨rfl, H_⟩
    refine ⟨_, rfl, ?_⟩
    replace HS : St W (owns []) W2 [] := HS.join (F := []) (G := []) H_
    clear H_
    by_cases hc3 : i < n
    · skip
      refine ql (.bool true) (by kernel_rfl) (R_bool (p := i < n) (by kernel_rfl) (hc3)) ?_
      refine ql (.bool true) (by kernel_rfl) (by kernel_rfl) ?_
      refine ql (.bool true) (by kernel_rfl) (by kernel_rfl) ?_
      refine wpList_nil ?_
      refine x_then ?_
      refine wp_ret ?_
      refine ret_ (.bool true) (by kernel_rfl) ?_
      exact ⟨rfl, HS⟩
    · skip
      refine ql (.bool false) (by kernel_rfl) (R_nbool (p := i < n) (by kernel_rfl) (hc3)) ?_
      refine ql (.bool false) (by kernel_rfl) (by kernel_rfl) ?_
      refine ql (.bool false) (by kernel_rfl) (by kernel_rfl) ?_
      refine wpList_nil ?_
      refine x_then ?_
      refine wp_ret ?_
      refine ret_ (.bool false) (by kernel_rfl) ?_
      exfalso; omega
  · skip
    refine ql (.bool false) (by kernel_rfl) (R_nbool (p := i ≥ (0 : Int)) (by kernel_rfl) (hc1)) ?_
    refine ql (.bool false) (by kernel_rfl) (by kernel_rfl) ?_
    refine qln (by kernel_rfl) ?_
    refine qln (by kernel_rfl) ?_
    refine qln (by kernel_rfl) ?_
    refine qln (by kernel_rfl) ?_
    refine ql (.bool false) (by kernel_rfl) (by kernel_rfl) ?_
    refine ql (.bool false) (by kernel_rfl) (by kernel_rfl) ?_
    refine wpList_nil ?_
    refine x_then ?_
    refine wp_ret ?_
    refine ret_ (.bool false) (by kernel_rfl) ?_
    exfalso; omega

set_option maxRecDepth 100000 in
set_option maxHeartbeats 1000000 in
theorem dis_f (g : Nat) (n i : Int) (W : World) (hz1 : W.cell? ⟨g, 1, none⟩ = some (.int .i64 n)) (ho : i < 0 ∨ n ≤ i) : Calls Try.prog 87 #[.pointer (some ⟨g, 0, none⟩), .int .i64 i] W fun e W' => e = .returned (.bool false) ∧ St W (owns []) W' [] := by
  have HS : St W (owns []) W [] := St.start W _
  refine calls_enter [.pointer (some ⟨g, 0, none⟩), .int .i64 i, undef, undef, undef, undef, undef, undef, undef, undef, undef, undef, undef] Try.func87 rfl (by kernel_rfl) ?_
  refine wp_seq ?_
  refine wp_region_lit ?_
  refine ql (.bool false) (by kernel_rfl) (by kernel_rfl) ?_
  refine wpList_nil ?_
  refine x_then ?_
  refine wp_seq ?_
  refine wp_region_lit ?_
  refine ql (.int .i64 i) (by kernel_rfl) (by kernel_rfl) ?_
  by_cases hc1 : i ≥ (0 : Int)
  · skip
    refine ql (.bool true) (by kernel_rfl) (R_bool (p := i ≥ (0 : Int)) (by kernel_rfl) (hc1)) ?_
    refine ql (.bool true) (by kernel_rfl) (by kernel_rfl) ?_
    refine ql (.int .i64 i) (by kernel_rfl) (by kernel_rfl) ?_
    refine ql (.pointer (some ⟨g, 0, none⟩)) (by kernel_rfl) (by kernel_rfl) ?_
    refine qc (f := 94) (args := #[.pointer (some ⟨g, 0, none⟩)]) (by kernel_rfl) (R_call #[.pointer (some ⟨g, 0, none⟩)] Try.func94 (by kernel_rfl) (by kernel_rfl) (by kernel_rfl)) ?_
    refine (dsize _ _ _ (HS.old0 hz1)).mono ?_
    rintro e W2 ⟨rfl, H_⟩
    refine ⟨_, rfl, ?_⟩
    replace HS : St W (owns []) W2 [] := HS.join (F := []) (G := []) H_
    clear H_
    by_cases hc3 : i < n
    · skip
      refine ql (.bool true) (by kernel_rfl) (R_bool (p := i < n) (by kernel_rfl) (hc3)) ?_
      refine ql (.bool true) (by kernel_rfl) (by kernel_rfl) ?_
      refine ql (.bool true) (by kernel_rfl) (by kernel_rfl) ?_
      refine wpList_nil ?_
      refine x_then ?_
      refine wp_ret ?_
      refine ret_ (.bool true) (by kernel_rfl) ?_
      exfalso; omega
    · skip
      refine ql (.bool false) (by kernel_rfl) (R_nbool (p := i < n) (by kernel_rfl) (hc3)) ?_
      refine ql (.bool false) (by kernel_rfl) (by kernel_rfl) ?_
      refine ql (.bool false) (by kernel_rfl) (by kernel_rfl) ?_
      refine wpList_nil ?_
      refine x_then ?_
      refine wp_ret ?_
      refine ret_ (.bool false) (by kernel_rfl) ?_
      exact ⟨rfl, HS⟩
  · skip
    refine ql (.bool false) (by kernel_rfl) (R_nbool (p := i ≥ (0 : Int)) (by kernel_rfl) (hc1)) ?_
    refine ql (.bool false) (by kernel_rfl) (by kernel_rfl) ?_
    refine qln (by kernel_rfl) ?_
    refine qln (by kernel_rfl) ?_
    refine qln (by kernel_rfl) ?_
    refine qln (by kernel_rfl) ?_
    refine ql (.bool false) (by kernel_rfl) (by kernel_rfl) ?_
    refine ql (.bool false) (by kernel_rfl) (by kernel_rfl) ?_
    refine wpList_nil ?_
    refine x_then ?_
    refine wp_ret ?_
    refine ret_ (.bool false) (by kernel_rfl) ?_
    exact ⟨rfl, HS⟩

set_option maxRecDepth 100000 in
set_option maxHeartbeats 1000000 in
theorem dis_nil (i : Int) (W : World) : Calls Try.prog 87 #[.pointer none, .int .i64 i] W fun e W' => e = .returned (.bool false) ∧ St W (owns []) W' [] := by
  have HS : St W (owns []) W [] := St.start W _
  refine calls_enter [.pointer none, .int .i64 i, undef, undef, undef, undef, undef, undef, undef, undef, undef, undef, undef] Try.func87 rfl (by kernel_rfl) ?_
  refine wp_seq ?_
  refine wp_region_lit ?_
  refine ql (.bool false) (by kernel_rfl) (by kernel_rfl) ?_
  refine wpList_nil ?_
  refine x_then ?_
  refine wp_seq ?_
  refine wp_region_lit ?_
  refine ql (.int .i64 i) (by kernel_rfl) (by kernel_rfl) ?_
  by_cases hc1 : i ≥ (0 : Int)
  · skip
    refine ql (.bool true) (by kernel_rfl) (R_bool (p := i ≥ (0 : Int)) (by kernel_rfl) (hc1)) ?_
    refine ql (.bool true) (by kernel_rfl) (by kernel_rfl) ?_
    refine ql (.int .i64 i) (by kernel_rfl) (by kernel_rfl) ?_
    refine ql (.pointer none) (by kernel_rfl) (by kernel_rfl) ?_
    refine qc (f := 94) (args := #[.pointer none]) (by kernel_rfl) (R_call #[.pointer none] Try.func94 (by kernel_rfl) (by kernel_rfl) (by kernel_rfl)) ?_
    refine (dsize_nil _).mono ?_
    rintro e W2 ⟨rfl, H_⟩
    refine ⟨_, rfl, ?_⟩
    replace HS : St W (owns []) W2 [] := HS.join (F := []) (G := []) H_
    clear H_
    by_cases hc3 : i < (0 : Int)
    · skip
      refine ql (.bool true) (by kernel_rfl) (R_bool (p := i < (0 : Int)) (by kernel_rfl) (hc3)) ?_
      refine ql (.bool true) (by kernel_rfl) (by kernel_rfl) ?_
      refine ql (.bool true) (by kernel_rfl) (by kernel_rfl) ?_
      refine wpList_nil ?_
      refine x_then ?_
      refine wp_ret ?_
      refine ret_ (.bool true) (by kernel_rfl) ?_
      exfalso; omega
    · skip
      refine ql (.bool false) (by kernel_rfl) (R_nbool (p := i < (0 : Int)) (by kernel_rfl) (hc3)) ?_
      refine ql (.bool false) (by kernel_rfl) (by kernel_rfl) ?_
      refine ql (.bool false) (by kernel_rfl) (by kernel_rfl) ?_
      refine wpList_nil ?_
      refine x_then ?_
      refine wp_ret ?_
      refine ret_ (.bool false) (by kernel_rfl) ?_
      exact ⟨rfl, HS⟩
  · skip
    refine ql (.bool false) (by kernel_rfl) (R_nbool (p := i ≥ (0 : Int)) (by kernel_rfl) (hc1)) ?_
    refine ql (.bool false) (by kernel_rfl) (by kernel_rfl) ?_
    refine qln (by kernel_rfl) ?_
    refine qln (by kernel_rfl) ?_
    refine qln (by kernel_rfl) ?_
    refine qln (by kernel_rfl) ?_
    refine ql (.bool false) (by kernel_rfl) (by kernel_rfl) ?_
    refine ql (.bool false) (by kernel_rfl) (by kernel_rfl) ?_
    refine wpList_nil ?_
    refine x_then ?_
    refine wp_ret ?_
    refine ret_ (.bool false) (by kernel_rfl) ?_
    exact ⟨rfl, HS⟩

set_option maxRecDepth 100000 in
set_option maxHeartbeats 1000000 in
theorem dhas_t (g c : Nat) (A : Option Addr) (ws : List Int) (n : Int) (L : List Int) (i : Int) (W : World) (hz0 : W.cell? ⟨g, 0, none⟩ = some (.slice A ws.length c)) (hz1 : W.cell? ⟨g, 1, none⟩ = some (.int .i64 n)) (hr : Rd W A (ci .u64 ws)) (hR : Rep ws n L) (hn : n ≤ 1048576) (hi : i ∈ L) : Calls Try.prog 73 #[.pointer (some ⟨g, 0, none⟩), .int .i64 i] W fun e W' => e = .returned (.bool true) ∧ St W (owns []) W' [] := by
  have HS : St W (owns []) W [] := St.start W _
  have h0 := (hR.lim i hi).1
  have h1 := (hR.lim i hi).2
  have hix := hR.idx h0 h1
  refine calls_enter [.pointer (some ⟨g, 0, none⟩), .int .i64 i, undef, undef, undef, undef, undef, undef, undef, undef, undef, undef, undef, undef, undef, undef, undef, undef, undef, undef, undef, undef, undef] Try.func73 rfl (by kernel_rfl) ?_
  refine wp_seq ?_
  refine wp_region_lit ?_
  refine ql (.bool false) (by kernel_rfl) (by kernel_rfl) ?_
  refine wpList_nil ?_
  refine x_then ?_
  refine wp_seq ?_
  refine wp_region_lit ?_
  refine ql (.pointer (some ⟨g, 0, none⟩)) (by kernel_rfl) (by kernel_rfl) ?_
  refine ql (.int .i64 i) (by kernel_rfl) (by kernel_rfl) ?_
  refine qc (f := 87) (args := #[.pointer (some ⟨g, 0, none⟩), .int .i64 i]) (by kernel_rfl) (R_call #[.pointer (some ⟨g, 0, none⟩), .int .i64 i] Try.func87 (by kernel_rfl) (by kernel_rfl) (by kernel_rfl)) ?_
  refine (dis_t _ _ i _ (HS.old0 hz1) (hR.lim i hi).1 (hR.lim i hi).2).mono ?_
  rintro e W1 ⟨rfl, H_⟩
  refine ⟨_, rfl, ?_⟩
  replace HS : St W (owns []) W1 [] := HS.join (F := []) (G := []) H_
  clear H_
  refine ql (.bool true) (by kernel_rfl) (by kernel_rfl) ?_
  refine ql (.pointer (some ⟨g, 0, none⟩)) (by kernel_rfl) (by kernel_rfl) ?_
  refine ql (.pointer (some ⟨g, 0, none⟩)) (by kernel_rfl) (by kernel_rfl) ?_
  refine ql (.pointer (some ⟨g, 0, none⟩)) (by kernel_rfl) (by kernel_rfl) ?_
  refine ql (.slice A ws.length c) (by kernel_rfl) (R_load (p := ⟨g, 0, none⟩) (by kernel_rfl) (by kernel_rfl) (by kernel_rfl) (HS.old0 hz0)) ?_
  refine ql (.int .i64 i) (by kernel_rfl) (by kernel_rfl) ?_
  refine ql (.int .i64 (i / 64)) (by kernel_rfl) (R_quo (by kernel_rfl) (by kernel_rfl) (by omega) (by omega) (by decide)) ?_
  obtain ⟨ad2, rfl⟩ := Rd.isSome_ hr (by rw [ci_len]; omega)
  refine ql (.pointer (some (ad2.add (i / 64).toNat))) (by kernel_rfl) (R_indexA1 (k := .i64) (p := ad2) (n := ws.length) (c := c) (i := i / 64) (by kernel_rfl) (by kernel_rfl) Try.underlying111 (by kernel_rfl) (by omega) (by omega)) ?_
  refine ql (.int .u64 (rdI ws (i / 64))) (by kernel_rfl) (R_load (p := ad2.add (i / 64).toNat) (by kernel_rfl) (by kernel_rfl) (by kernel_rfl) (HS.old0 (hr.at_ (ci_rd (i := i / 64) (by omega) (by omega))))) ?_
  refine ql (.int .i64 i) (by kernel_rfl) (by kernel_rfl) ?_
  refine ql (.int .i64 (i % 64)) (by kernel_rfl) (R_rem2 (by kernel_rfl) (by kernel_rfl) (by omega) (by omega) (by decide)) ?_
  refine ql (.int .u64 (shrW (rdI ws (i / 64)) (i % 64))) (by kernel_rfl) (R_shr (k2 := .i64) (by kernel_rfl) (by kernel_rfl) (hR.rd_at h0 h1) (by omega) (by omega)) ?_
  refine ql (.int .u64 (andW (shrW (rdI ws (i / 64)) (i % 64)) 1)) (by kernel_rfl) (R_and (by kernel_rfl) (by kernel_rfl) (u_shr (hR.rd_at h0 h1)) (u_lit 1 (by decide))) ?_
  refine ql (.bool true) (by kernel_rfl) (R_beq (b := (andW (shrW (rdI ws (i / 64)) (i % 64)) 1 == (1 : Int))) (by kernel_rfl) (beq_t (hR.has_t hi))) ?_
  refine ql (.bool true) (by kernel_rfl) (by kernel_rfl) ?_
  refine ql (.bool true) (by kernel_rfl) (by kernel_rfl) ?_
  refine wpList_nil ?_
  refine x_then ?_
  refine wp_ret ?_
  refine ret_ (.bool true) (by kernel_rfl) ?_
  exact ⟨rfl, HS⟩

set_option maxRecDepth 100000 in
set_option maxHeartbeats 1000000 in
theorem dhas_f (g c : Nat) (A : Option Addr) (ws : List Int) (n : Int) (L : List Int) (i : Int) (W : World) (hz0 : W.cell? ⟨g, 0, none⟩ = some (.slice A ws.length c)) (hz1 : W.cell? ⟨g, 1, none⟩ = some (.int .i64 n)) (hr : Rd W A (ci .u64 ws)) (hR : Rep ws n L) (hn : n ≤ 1048576) (h0 : 0 ≤ i) (h1 : i < n) (hi : i ∉ L) : Calls Try.prog 73 #[.pointer (some ⟨g, 0, none⟩), .int .i64 i] W fun e W' => e = .returned (.bool false) ∧ St W (owns []) W' [] := by
  have HS : St W (owns []) W [] := St.start W _
  have hix := hR.idx h0 h1
  refine calls_enter [.pointer (some ⟨g, 0, none⟩), .int .i64 i, undef, undef, undef, undef, undef, undef, undef, undef, undef, undef, undef, undef, undef, undef, undef, undef, undef, undef, undef, undef, undef] Try.func73 rfl (by kernel_rfl) ?_
  refine wp_seq ?_
  refine wp_region_lit ?_
  refine ql (.bool false) (by kernel_rfl) (by kernel_rfl) ?_
  refine wpList_nil ?_
  refine x_then ?_
  refine wp_seq ?_
  refine wp_region_lit ?_
  refine ql (.pointer (some ⟨g, 0, none⟩)) (by kernel_rfl) (by kernel_rfl) ?_
  refine ql (.int .i64 i) (by kernel_rfl) (by kernel_rfl) ?_
  refine qc (f := 87) (args := #[.pointer (some ⟨g, 0, none⟩), .int .i64 i]) (by kernel_rfl) (R_call #[.pointer (some ⟨g, 0, none⟩), .int .i64 i] Try.func87 (by kernel_rfl) (by kernel_rfl) (by kernel_rfl)) ?_
  refine (dis_t _ _ i _ (HS.old0 hz1) h0 h1).mono ?_
  rintro e W1 ⟨rfl, H_⟩
  refine ⟨_, rfl, ?_⟩
  replace HS : St W (owns []) W1 [] := HS.join (F := []) (G := []) H_
  clear H_
  refine ql (.bool true) (by kernel_rfl) (by kernel_rfl) ?_
  refine ql (.pointer (some ⟨g, 0, none⟩)) (by kernel_rfl) (by kernel_rfl) ?_
  refine ql (.pointer (some ⟨g, 0, none⟩)) (by kernel_rfl) (by kernel_rfl) ?_
  refine ql (.pointer (some ⟨g, 0, none⟩)) (by kernel_rfl) (by kernel_rfl) ?_
  refine ql (.slice A ws.length c) (by kernel_rfl) (R_load (p := ⟨g, 0, none⟩) (by kernel_rfl) (by kernel_rfl) (by kernel_rfl) (HS.old0 hz0)) ?_
  refine ql (.int .i64 i) (by kernel_rfl) (by kernel_rfl) ?_
  refine ql (.int .i64 (i / 64)) (by kernel_rfl) (R_quo (by kernel_rfl) (by kernel_rfl) (by omega) (by omega) (by decide)) ?_
  obtain ⟨ad2, rfl⟩ := Rd.isSome_ hr (by rw [ci_len]; omega)
  refine ql (.pointer (some (ad2.add (i / 64).toNat))) (by kernel_rfl) (R_indexA1 (k := .i64) (p := ad2) (n := ws.length) (c := c) (i := i / 64) (by kernel_rfl) (by kernel_rfl) Try.underlying111 (by kernel_rfl) (by omega) (by omega)) ?_
  refine ql (.int .u64 (rdI ws (i / 64))) (by kernel_rfl) (R_load (p := ad2.add (i / 64).toNat) (by kernel_rfl) (by kernel_rfl) (by kernel_rfl) (HS.old0 (hr.at_ (ci_rd (i := i / 64) (by omega) (by omega))))) ?_
  refine ql (.int .i64 i) (by kernel_rfl) (by kernel_rfl) ?_
  refine ql (.int .i64 (i % 64)) (by kernel_rfl) (R_rem2 (by kernel_rfl) (by kernel_rfl) (by omega) (by omega) (by decide)) ?_
  refine ql (.int .u64 (shrW (rdI ws (i / 64)) (i % 64))) (by kernel_rfl) (R_shr (k2 := .i64) (by kernel_rfl) (by kernel_rfl) (hR.rd_at h0 h1) (by omega) (by omega)) ?_
  refine ql (.int .u64 (andW (shrW (rdI ws (i / 64)) (i % 64)) 1)) (by kernel_rfl) (R_and (by kernel_rfl) (by kernel_rfl) (u_shr (hR.rd_at h0 h1)) (u_lit 1 (by decide))) ?_
  refine ql (.bool false) (by kernel_rfl) (R_beq (b := (andW (shrW (rdI ws (i / 64)) (i % 64)) 1 == (1 : Int))) (by kernel_rfl) (beq_f (hR.has_f h0 h1 hi))) ?_
  refine ql (.bool false) (by kernel_rfl) (by kernel_rfl) ?_
  refine ql (.bool false) (by kernel_rfl) (by kernel_rfl) ?_
  refine wpList_nil ?_
  refine x_then ?_
  refine wp_ret ?_
  refine ret_ (.bool false) (by kernel_rfl) ?_
  exact ⟨rfl, HS⟩

set_option maxRecDepth 100000 in
set_option maxHeartbeats 1000000 in
theorem dhas_o (g c : Nat) (A : Option Addr) (ws : List Int) (n : Int) (L : List Int) (i : Int) (W : World) (hz0 : W.cell? ⟨g, 0, none⟩ = some (.slice A ws.length c)) (hz1 : W.cell? ⟨g, 1, none⟩ = some (.int .i64 n)) (hr : Rd W A (ci .u64 ws)) (hR : Rep ws n L) (hn : n ≤ 1048576) (ho : i < 0 ∨ n ≤ i) : Calls Try.prog 73 #[.pointer (some ⟨g, 0, none⟩), .int .i64 i] W fun e W' => e = .returned (.bool false) ∧ St W (owns []) W' [] := by
  have HS : St W (owns []) W [] := St.start W _
  refine calls_enter [.pointer (some ⟨g, 0, none⟩), .int .i64 i, undef, undef, undef, undef, undef, undef, undef, undef, undef, undef, undef, undef, undef, undef, undef, undef, undef, undef, undef, undef, undef] Try.func73 rfl (by kernel_rfl) ?_
  refine wp_seq ?_
  refine wp_region_lit ?_
  refine ql (.bool false) (by kernel_rfl) (by kernel_rfl) ?_
  refine wpList_nil ?_
  refine x_then ?_
  refine wp_seq ?_
  refine wp_region_lit ?_
  refine ql (.pointer (some ⟨g, 0, none⟩)) (by kernel_rfl) (by kernel_rfl) ?_
  refine ql (.int .i64 i) (by kernel_rfl) (by kernel_rfl) ?_
  refine qc (f := 87) (args := #[.pointer (some ⟨g, 0, none⟩), .int .i64 i]) (by kernel_rfl) (R_call #[.pointer (some ⟨g, 0, none⟩), .int .i64 i] Try.func87 (by kernel_rfl) (by kernel_rfl) (by kernel_rfl)) ?_
  refine (dis_f _ _ i _ (HS.old0 hz1) ho).mono ?_
  rintro e W1 ⟨rfl, H_⟩
  refine ⟨_, rfl, ?_⟩
  replace HS : St W (owns []) W1 [] := HS.join (F := []) (G := []) H_
  clear H_
  refine ql (.bool false) (by kernel_rfl) (by kernel_rfl) ?_
  refine qln (by kernel_rfl) ?_
  refine qln (by kernel_rfl) ?_
  refine qln (by kernel_rfl) ?_
  refine qln (by kernel_rfl) ?_
  refine qln (by kernel_rfl) ?_
  refine qln (by kernel_rfl) ?_
  refine qln (by kernel_rfl) ?_
  refine qln (by kernel_rfl) ?_
  refine qln (by kernel_rfl) ?_
  refine qln (by kernel_rfl) ?_
  refine qln (by kernel_rfl) ?_
  refine qln (by kernel_rfl) ?_
  refine qln (by kernel_rfl) ?_
  refine ql (.bool false) (by kernel_rfl) (by kernel_rfl) ?_
  refine ql (.bool false) (by kernel_rfl) (by kernel_rfl) ?_
  refine wpList_nil ?_
  refine x_then ?_
  refine wp_ret ?_
  refine ret_ (.bool false) (by kernel_rfl) ?_
  exact ⟨rfl, HS⟩

set_option maxRecDepth 100000 in
set_option maxHeartbeats 1000000 in
theorem dhas_nil (i : Int) (W : World) : Calls Try.prog 73 #[.pointer none, .int .i64 i] W fun e W' => e = .returned (.bool false) ∧ St W (owns []) W' [] := by
  have HS : St W (owns []) W [] := St.start W _
  refine calls_enter [.pointer none, .int .i64 i, undef, undef, undef, undef, undef, undef, undef, undef, undef, undef, undef, undef, undef, undef, undef, undef, undef, undef, undef, undef, undef] Try.func73 rfl (by kernel_rfl) ?_
  refine wp_seq ?_
  refine wp_region_lit ?_
  refine ql (.bool false) (by kernel_rfl) (by kernel_rfl) ?_
  refine wpList_nil ?_
  refine x_then ?_
  refine wp_seq ?_
  refine wp_region_lit ?_
  refine ql (.pointer none) (by kernel_rfl) (by kernel_rfl) ?_
  refine ql (.int .i64 i) (by kernel_rfl) (by kernel_rfl) ?_
  refine qc (f := 87) (args := #[.pointer none, .int .i64 i]) (by kernel_rfl) (R_call #[.pointer none, .int .i64 i] Try.func87 (by kernel_rfl) (by kernel_rfl) (by kernel_rfl)) ?_
  refine (dis_nil _ _).mono ?_
  rintro e W1 ⟨rfl, H_⟩
  refine ⟨_, rfl, ?_⟩
  replace HS : St W (owns []) W1 [] := HS.join (F := []) (G := []) H_
  clear H_
  refine ql (.bool false) (by kernel_rfl) (by kernel_rfl) ?_
  refine qln (by kernel_rfl) ?_
  refine qln (by kernel_rfl) ?_
  refine qln (by kernel_rfl) ?_
  refine qln (by kernel_rfl) ?_
  refine qln (by kernel_rfl) ?_
  refine qln (by kernel_rfl) ?_
  refine qln (by kernel_rfl) ?_
  refine qln (by kernel_rfl) ?_
  refine qln (by kernel_rfl) ?_
  refine qln (by kernel_rfl) ?_
  refine qln (by kernel_rfl) ?_
  refine qln (by kernel_rfl) ?_
  refine qln (by kernel_rfl) ?_
  refine ql (.bool false) (by kernel_rfl) (by kernel_rfl) ?_
  refine ql (.bool false) (by kernel_rfl) (by kernel_rfl) ?_
  refine wpList_nil ?_
  refine x_then ?_
  refine wp_ret ?_
  refine ret_ (.bool false) (by kernel_rfl) ?_
  exact ⟨rfl, HS⟩

theorem dhas_n (g c : Nat) (A : Option Addr) (ws : List Int) (n : Int) (L : List Int) (i : Int) (W : World) (hz0 : W.cell? ⟨g, 0, none⟩ = some (.slice A ws.length c)) (hz1 : W.cell? ⟨g, 1, none⟩ = some (.int .i64 n)) (hr : Rd W A (ci .u64 ws)) (hR : Rep ws n L) (hn : n ≤ 1048576) (hi : i ∉ L) : Calls Try.prog 73 #[.pointer (some ⟨g, 0, none⟩), .int .i64 i] W fun e W' => e = .returned (.bool false) ∧ St W (owns []) W' [] := by
  by_cases h : 0 ≤ i ∧ i < n
  · exact dhas_f g c A ws n L i W hz0 hz1 hr hR hn h.1 h.2 hi
  · exact dhas_o g c A ws n L i W hz0 hz1 hr hR hn (by omega)

open Go.Shelf

def TabAt64 (W : World) : Prop := ∀ j, j < 64 → W.cell? ⟨0, j, none⟩ = some (.int .u8 ((Lib.deBruijn64tab.getD j 0 : Nat) : Int))

open Go.Shelf

theorem rep_zero {n : Int} {k : Nat} (h0 : 0 ≤ n) (hk : (k : Int) = (n + 63) / 64) : Rep (List.replicate k 0) n [] := by
  refine ⟨by rw [List.length_replicate]; exact hk, h0, fun w hw => ?_, fun i h0 h1 => ?_, List.Pairwise.nil, fun x hx => by simp at hx⟩
  · obtain ⟨_, rfl⟩ := List.mem_replicate.1 hw
    exact u_lit 0 (by decide)
  · have e : rdI (List.replicate k 0) (i / 64) = 0 := by
      unfold rdI
      rw [List.getD_eq_getElem?_getD, List.getElem?_replicate]
      split <;> rfl
    unfold bitI tb
    rw [e, show (0 : Int).toNat = 0 from rfl, Nat.zero_testBit]
    simp

set_option maxRecDepth 100000 in
set_option maxHeartbeats 1000000 in
theorem dnew_ok (n : Int) (W : World) (h0 : 0 ≤ n) (h1 : n ≤ 1048576) : Calls Try.prog 88 #[.int .i64 n] W fun e W' => ∃ g a c ws, e = .returned (.tuple #[.pointer (some ⟨g, 0, none⟩), .int .i64 0]) ∧ St W (owns []) W' [blk g [.slice (some ⟨a, 0, none⟩) ws.length c, .int .i64 n] 113, row (some ⟨a, 0, none⟩) ws.length c (ci .u64 ws) 110 1] ∧ Rep ws n [] := by
  have HS : St W (owns []) W [] := St.start W _
  refine calls_enter [.int .i64 n, undef, undef, undef, undef, undef, undef, undef, undef, undef, undef, undef, undef, undef, undef, undef, undef, undef] Try.func88 rfl (by kernel_rfl) ?_
  refine wp_seq ?_
  refine wp_region_lit ?_
  refine ql (.pointer none) (by kernel_rfl) (by kernel_rfl) ?_
  refine ql (.int .i64 0) (by kernel_rfl) (by kernel_rfl) ?_
  refine wpList_nil ?_
  refine x_then ?_
  refine wp_seq ?_
  refine wp_block ?_
  refine wp_seq ?_
  refine wp_region_lit ?_
  refine ql (.int .i64 n) (by kernel_rfl) (by kernel_rfl) ?_
  refine ql (.bool false) (by kernel_rfl) (R_nbool (p := n < (0 : Int)) (by kernel_rfl) (by omega)) ?_
  refine ql (.bool false) (by kernel_rfl) (by kernel_rfl) ?_
  refine wpList_nil ?_
  refine x_then ?_
  refine wp_cond_false (by kernel_rfl) ?_
  refine wp_seq ?_
  refine wp_region_lit ?_
  refine ql (.int .i64 n) (by kernel_rfl) (by kernel_rfl) ?_
  refine ql (.bool false) (by kernel_rfl) (R_nbool (p := n > (1048576 : Int)) (by kernel_rfl) (by omega)) ?_
  refine ql (.bool false) (by kernel_rfl) (by kernel_rfl) ?_
  refine wpList_nil ?_
  refine x_then ?_
  refine wp_cond_false (by kernel_rfl) ?_
  refine wp_skip ?_
  refine x_inb ?_
  refine x_then ?_
  refine wp_seq ?_
  refine wp_region_lit ?_
  refine ql (.int .i64 n) (by kernel_rfl) (by kernel_rfl) ?_
  refine ql (.int .i64 (n + 64)) (by kernel_rfl) (R_int (by kernel_rfl) (w64 (by omega))) ?_
  refine ql (.int .i64 ((n + 64) - 1)) (by kernel_rfl) (R_int (by kernel_rfl) (w64 (by omega))) ?_
  refine ql (.int .i64 (((n + 64) - 1) / 64)) (by kernel_rfl) (R_quo (by kernel_rfl) (by kernel_rfl) (by omega) (by omega) (by decide)) ?_
  refine km HS ((((n + 64) - 1) / 64).toNat) [.int .u64 0] 8 (by kernel_rfl) (k_eq (k := .i64) (m := ((n + 64) - 1) / 64) (by kernel_rfl) (by omega)) (k_eq (k := .i64) (m := ((n + 64) - 1) / 64) (by kernel_rfl) (by omega)) Try.underlying111 (by kernel_rfl) (by kernel_rfl) (by kernel_rfl) (by decide) (by omega) (by omega) ?_
  intro g1 W2 H_
  replace HS : St W (owns []) W2 [row (some ⟨g1, 0, none⟩) ((((n + 64) - 1) / 64).toNat) ((((n + 64) - 1) / 64).toNat) (ci .u64 (List.replicate ((((n + 64) - 1) / 64).toNat) 0)) 110 1] := H_.cast_ (by rw [ci_rep]; rfl)
  clear H_
  have rlg1 : (List.replicate ((((n + 64) - 1) / 64).toNat) (0 : Int)).length = (((n + 64) - 1) / 64).toNat := List.length_replicate
  refine ql (.int .i64 n) (by kernel_rfl) (by kernel_rfl) ?_
  refine ql (.agg #[.slice (some ⟨g1, 0, none⟩) ((((n + 64) - 1) / 64).toNat) ((((n + 64) - 1) / 64).toNat), .int .i64 n]) (by kernel_rfl) (by kernel_rfl) ?_
  refine kb HS [.slice (some ⟨g1, 0, none⟩) ((((n + 64) - 1) / 64).toNat) ((((n + 64) - 1) / 64).toNat), .int .i64 n] 113 (fun g => .pointer (some ⟨g, 0, none⟩)) (by kernel_rfl) (by kernel_rfl) ?_
  intro g3 W4 H_
  replace HS : St W (owns []) W4 [blk g3 [.slice (some ⟨g1, 0, none⟩) ((((n + 64) - 1) / 64).toNat) ((((n + 64) - 1) / 64).toNat), .int .i64 n] 113, row (some ⟨g1, 0, none⟩) ((((n + 64) - 1) / 64).toNat) ((((n + 64) - 1) / 64).toNat) (ci .u64 (List.replicate ((((n + 64) - 1) / 64).toNat) 0)) 110 1] := H_
  clear H_
  refine ql (.pointer (some ⟨g3, 0, none⟩)) (by kernel_rfl) (by kernel_rfl) ?_
  refine ql (.int .i64 0) (by kernel_rfl) (by kernel_rfl) ?_
  refine wpList_nil ?_
  refine x_then ?_
  refine wp_ret ?_
  refine ret_ (.tuple #[.pointer (some ⟨g3, 0, none⟩), .int .i64 0]) (by kernel_rfl) ?_
  obtain ⟨ws, hws⟩ : ∃ z_ : List Int, z_ = List.replicate ((((n + 64) - 1) / 64).toNat) 0 := ⟨_, rfl⟩
  have hR : Rep ws n [] := by rw [hws]; exact rep_zero h0 (by omega)
  have hl : ((((n + 64) - 1) / 64).toNat) = ws.length := by rw [hws, List.length_replicate]
  rw [← hws] at HS
  rw [hl] at HS
  exact ⟨_, _, _, ws, by first | rfl | (rw [hl]), HS, hR⟩

set_option maxRecDepth 100000 in
set_option maxHeartbeats 1000000 in
theorem dadd_new (g c : Nat) (A : Option Addr) (ws : List Int) (n : Int) (L : List Int) (i : Int) (W : World) (M : Nat → Prop) (HS : St W M W [blk g [.slice A ws.length c, .int .i64 n] 113, row A ws.length c (ci .u64 ws) 110 1]) (hR : Rep ws n L) (hn : n ≤ 1048576) (h0 : 0 ≤ i) (h1 : i < n) (hi : i ∉ L) : Calls Try.prog 71 #[.pointer (some ⟨g, 0, none⟩), .int .i64 i] W fun e W' => ∃ ws', e = .returned (.bool true) ∧ St W M W' [blk g [.slice A ws'.length c, .int .i64 n] 113, row A ws'.length c (ci .u64 ws') 110 1] ∧ Rep ws' n (ins i L) := by
  have hix := hR.idx h0 h1
  refine calls_enter [.pointer (some ⟨g, 0, none⟩), .int .i64 i, undef, undef, undef, undef, undef, undef, undef, undef, undef, undef, undef, undef, undef, undef, undef, undef, undef, undef, undef, undef, undef, undef, undef, undef, undef] Try.func71 rfl (by kernel_rfl) ?_
  refine wp_seq ?_
  refine wp_region_lit ?_
  refine ql (.bool false) (by kernel_rfl) (by kernel_rfl) ?_
  refine wpList_nil ?_
  refine x_then ?_
  refine wp_seq ?_
  refine wp_seq ?_
  refine wp_region_lit ?_
  refine ql (.pointer (some ⟨g, 0, none⟩)) (by kernel_rfl) (by kernel_rfl) ?_
  refine ql (.int .i64 i) (by kernel_rfl) (by kernel_rfl) ?_
  refine qc (f := 87) (args := #[.pointer (some ⟨g, 0, none⟩), .int .i64 i]) (by kernel_rfl) (R_call #[.pointer (some ⟨g, 0, none⟩), .int .i64 i] Try.func87 (by kernel_rfl) (by kernel_rfl) (by kernel_rfl)) ?_
  refine (dis_t _ _ i _ (HS.cell (i := 0) (j := 1) rfl rfl) h0 h1).mono ?_
  rintro e W1 ⟨rfl, H_⟩
  refine ⟨_, rfl, ?_⟩
  replace HS : St W M W1 [blk g [.slice A ws.length c, .int .i64 n] 113, row A ws.length c (ci .u64 ws) 110 1] := HS.join (F := []) (G := []) H_
  clear H_
  refine ql (.bool false) (by kernel_rfl) (by kernel_rfl) ?_
  refine ql (.bool false) (by kernel_rfl) (by kernel_rfl) ?_
  refine ql (.pointer (some ⟨g, 0, none⟩)) (by kernel_rfl) (by kernel_rfl) ?_
  refine ql (.int .i64 i) (by kernel_rfl) (by kernel_rfl) ?_
  refine qc (f := 73) (args := #[.pointer (some ⟨g, 0, none⟩), .int .i64 i]) (by kernel_rfl) (R_call #[.pointer (some ⟨g, 0, none⟩), .int .i64 i] Try.func73 (by kernel_rfl) (by kernel_rfl) (by kernel_rfl)) ?_
  refine (dhas_f g c A ws n L i _ (HS.cell (i := 0) (j := 0) rfl rfl) (HS.cell (i := 0) (j := 1) rfl rfl) (Rd.row HS (i := 1) rfl) hR hn h0 h1 hi).mono ?_
  rintro e W2 ⟨rfl, H_⟩
  refine ⟨_, rfl, ?_⟩
  replace HS : St W M W2 [blk g [.slice A ws.length c, .int .i64 n] 113, row A ws.length c (ci .u64 ws) 110 1] := HS.join (F := []) (G := []) H_
  clear H_
  refine ql (.bool false) (by kernel_rfl) (by kernel_rfl) ?_
  refine wpList_nil ?_
  refine x_then ?_
  refine wp_cond_false (by kernel_rfl) ?_
  refine wp_skip ?_
  refine x_then ?_
  refine wp_seq ?_
  refine rg_still HS 13 (by kernel_rfl) (by kernel_rfl) ?_
  intro W3 H_ HK_
  simp only [List.take_succ_cons, List.take_zero, List.drop_succ_cons, List.drop_zero]
  replace HS : St W M W3 [blk g [.slice A ws.length c, .int .i64 n] 113, row A ws.length c (ci .u64 ws) 110 1] := H_
  clear H_
  clear HK_
  refine qs (.pointer (some ⟨g, 0, none⟩)) (by kernel_rfl) (by kernel_rfl) ?_
  refine qs (.pointer (some ⟨g, 0, none⟩)) (by kernel_rfl) (by kernel_rfl) ?_
  refine qs (.pointer (some ⟨g, 0, none⟩)) (by kernel_rfl) (by kernel_rfl) ?_
  refine qs (.slice A ws.length c) (by kernel_rfl) (R_load (p := ⟨g, 0, none⟩) (by kernel_rfl) (by kernel_rfl) (by kernel_rfl) (HS.cell (i := 0) (j := 0) rfl rfl)) ?_
  refine qs (.int .i64 i) (by kernel_rfl) (by kernel_rfl) ?_
  refine qs (.int .i64 (i / 64)) (by kernel_rfl) (R_quo (by kernel_rfl) (by kernel_rfl) (by omega) (by omega) (by decide)) ?_
  obtain ⟨g4, rfl⟩ := St.rsome HS (i := 1) rfl (by omega)
  refine qs (.pointer (some ⟨g4, (i / 64).toNat, none⟩)) (by kernel_rfl) (R_index1 (k := .i64) (g := g4) (n := ws.length) (c := c) (i := i / 64) (by kernel_rfl) (by kernel_rfl) Try.underlying111 (by kernel_rfl) (by omega) (by omega)) ?_
  refine qs (.int .u64 (rdI ws (i / 64))) (by kernel_rfl) (R_load (p := ⟨g4, (i / 64).toNat, none⟩) (by kernel_rfl) (by kernel_rfl) (by kernel_rfl) (HS.rcell (i := 1) rfl (ci_rd (i := i / 64) (by omega) (by omega)))) ?_
  refine qs (.int .i64 i) (by kernel_rfl) (by kernel_rfl) ?_
  refine qs (.int .i64 (i % 64)) (by kernel_rfl) (R_rem2 (by kernel_rfl) (by kernel_rfl) (by omega) (by omega) (by decide)) ?_
  refine qs (.int .u64 (shlW 1 (i % 64))) (by kernel_rfl) (R_shl (k2 := .i64) (by kernel_rfl) (by kernel_rfl) (u_lit 1 (by decide)) (by omega) (by omega)) ?_
  refine qs (.int .u64 (orW (rdI ws (i / 64)) (shlW 1 (i % 64)))) (by kernel_rfl) (R_or (by kernel_rfl) (by kernel_rfl) (hR.rd_at h0 h1) u_shl) ?_
  refine qs (.pointer (some ⟨g4, (i / 64).toNat, none⟩)) (by kernel_rfl) (R_index1 (k := .i64) (g := g4) (n := ws.length) (c := c) (i := i / 64) (by kernel_rfl) (by kernel_rfl) Try.underlying111 (by kernel_rfl) (by omega) (by omega)) ?_
  refine wpStill_nil ?_
  refine kr (v := .int .u64 (orW (rdI ws (i / 64)) (shlW 1 (i % 64)))) HS 1 rfl ((i / 64).toNat) [.int .u64 (orW (rdI ws (i / 64)) (shlW 1 (i % 64)))] (by kernel_rfl) (by kernel_rfl) (by kernel_rfl) (by kernel_rfl) (by kernel_rfl) (one_ (by kernel_rfl)) (by rw [ci_len]; first | omega | (simp only [List.length_singleton]; omega)) rfl ?_
  intro W5 H_
  obtain ⟨xs6, xs6_⟩ : ∃ z_ : List Int, z_ = (ws).set (i / 64).toNat (orW (rdI ws (i / 64)) (shlW 1 (i % 64))) := ⟨_, rfl⟩
  replace HS : St W M W5 [blk g [.slice (some ⟨g4, 0, none⟩) ws.length c, .int .i64 n] 113, row (some ⟨g4, 0, none⟩) ws.length c (ci .u64 xs6) 110 1] := H_.cast_ (by rw [xs6_, ← ci_set]; rfl)
  clear H_
  have xs6l : xs6.length = ws.length := by rw [xs6_, List.length_set]; first | done | omega
  refine wpList_nil ?_
  refine x_then ?_
  refine wp_seq ?_
  refine wp_region_lit ?_
  refine ql (.bool true) (by kernel_rfl) (by kernel_rfl) ?_
  refine wpList_nil ?_
  refine x_then ?_
  refine wp_ret ?_
  refine ret_ (.bool true) (by kernel_rfl) ?_
  have hq : Rep xs6 n (ins i L) := by rw [xs6_]; exact hR.add h0 h1 hi
  rw [← xs6l] at HS
  exact ⟨xs6, rfl, HS, hq⟩

set_option maxRecDepth 100000 in
set_option maxHeartbeats 1000000 in
theorem dadd_old (g c : Nat) (A : Option Addr) (ws : List Int) (n : Int) (L : List Int) (i : Int) (W : World) (M : Nat → Prop) (HS : St W M W [blk g [.slice A ws.length c, .int .i64 n] 113, row A ws.length c (ci .u64 ws) 110 1]) (hR : Rep ws n L) (hn : n ≤ 1048576) (hi : i ∈ L) : Calls Try.prog 71 #[.pointer (some ⟨g, 0, none⟩), .int .i64 i] W fun e W' => e = .returned (.bool false) ∧ St W M W' [blk g [.slice A ws.length c, .int .i64 n] 113, row A ws.length c (ci .u64 ws) 110 1] := by
  refine calls_enter [.pointer (some ⟨g, 0, none⟩), .int .i64 i, undef, undef, undef, undef, undef, undef, undef, undef, undef, undef, undef, undef, undef, undef, undef, undef, undef, undef, undef, undef, undef, undef, undef, undef, undef] Try.func71 rfl (by kernel_rfl) ?_
  refine wp_seq ?_
  refine wp_region_lit ?_
  refine ql (.bool false) (by kernel_rfl) (by kernel_rfl) ?_
  refine wpList_nil ?_
  refine x_then ?_
  refine wp_seq ?_
  refine wp_seq ?_
  refine wp_region_lit ?_
  refine ql (.pointer (some ⟨g, 0, none⟩)) (by kernel_rfl) (by kernel_rfl) ?_
  refine ql (.int .i64 i) (by kernel_rfl) (by kernel_rfl) ?_
  refine qc (f := 87) (args := #[.pointer (some ⟨g, 0, none⟩), .int .i64 i]) (by kernel_rfl) (R_call #[.pointer (some ⟨g, 0, none⟩), .int .i64 i] Try.func87 (by kernel_rfl) (by kernel_rfl) (by kernel_rfl)) ?_
  refine (dis_t _ _ i _ (HS.cell (i := 0) (j := 1) rfl rfl) (hR.lim i hi).1 (hR.lim i hi).2).mono ?_
  rintro e W1 ⟨rfl, H_⟩
  refine ⟨_, rfl, ?_⟩
  replace HS : St W M W1 [blk g [.slice A ws.length c, .int .i64 n] 113, row A ws.length c (ci .u64 ws) 110 1] := HS.join (F := []) (G := []) H_
  clear H_
  refine ql (.bool false) (by kernel_rfl) (by kernel_rfl) ?_
  refine ql (.bool false) (by kernel_rfl) (by kernel_rfl) ?_
  refine ql (.pointer (some ⟨g, 0, none⟩)) (by kernel_rfl) (by kernel_rfl) ?_
  refine ql (.int .i64 i) (by kernel_rfl) (by kernel_rfl) ?_
  refine qc (f := 73) (args := #[.pointer (some ⟨g, 0, none⟩), .int .i64 i]) (by kernel_rfl) (R_call #[.pointer (some ⟨g, 0, none⟩), .int .i64 i] Try.func73 (by kernel_rfl) (by kernel_rfl) (by kernel_rfl)) ?_
  refine (dhas_t g c A ws n L i _ (HS.cell (i := 0) (j := 0) rfl rfl) (HS.cell (i := 0) (j := 1) rfl rfl) (Rd.row HS (i := 1) rfl) hR hn hi).mono ?_
  rintro e W2 ⟨rfl, H_⟩
  refine ⟨_, rfl, ?_⟩
  replace HS : St W M W2 [blk g [.slice A ws.length c, .int .i64 n] 113, row A ws.length c (ci .u64 ws) 110 1] := HS.join (F := []) (G := []) H_
  clear H_
  refine ql (.bool true) (by kernel_rfl) (by kernel_rfl) ?_
  refine wpList_nil ?_
  refine x_then ?_
  refine wp_cond_true (by kernel_rfl) ?_
  refine wp_seq ?_
  refine wp_region_lit ?_
  refine ql (.bool false) (by kernel_rfl) (by kernel_rfl) ?_
  refine wpList_nil ?_
  refine x_then ?_
  refine wp_ret ?_
  refine x_thenR ?_
  refine ret_ (.bool false) (by kernel_rfl) ?_
  exact ⟨rfl, HS⟩

set_option maxRecDepth 100000 in
set_option maxHeartbeats 1000000 in
theorem dadd_out (g c : Nat) (A : Option Addr) (ws : List Int) (n : Int) (L : List Int) (i : Int) (W : World) (M : Nat → Prop) (HS : St W M W [blk g [.slice A ws.length c, .int .i64 n] 113, row A ws.length c (ci .u64 ws) 110 1]) (hR : Rep ws n L) (hn : n ≤ 1048576) (ho : i < 0 ∨ n ≤ i) : Calls Try.prog 71 #[.pointer (some ⟨g, 0, none⟩), .int .i64 i] W fun e W' => e = .returned (.bool false) ∧ St W M W' [blk g [.slice A ws.length c, .int .i64 n] 113, row A ws.length c (ci .u64 ws) 110 1] := by
  refine calls_enter [.pointer (some ⟨g, 0, none⟩), .int .i64 i, undef, undef, undef, undef, undef, undef, undef, undef, undef, undef, undef, undef, undef, undef, undef, undef, undef, undef, undef, undef, undef, undef, undef, undef, undef] Try.func71 rfl (by kernel_rfl) ?_
  refine wp_seq ?_
  refine wp_region_lit ?_
  refine ql (.bool false) (by kernel_rfl) (by kernel_rfl) ?_
  refine wpList_nil ?_
  refine x_then ?_
  refine wp_seq ?_
  refine wp_seq ?_
  refine wp_region_lit ?_
  refine ql (.pointer (some ⟨g, 0, none⟩)) (by kernel_rfl) (by kernel_rfl) ?_
  refine ql (.int .i64 i) (by kernel_rfl) (by kernel_rfl) ?_
  refine qc (f := 87) (args := #[.pointer (some ⟨g, 0, none⟩), .int .i64 i]) (by kernel_rfl) (R_call #[.pointer (some ⟨g, 0, none⟩), .int .i64 i] Try.func87 (by kernel_rfl) (by kernel_rfl) (by kernel_rfl)) ?_
  refine (dis_f _ _ i _ (HS.cell (i := 0) (j := 1) rfl rfl) ho).mono ?_
  rintro e W1 ⟨rfl, H_⟩
  refine ⟨_, rfl, ?_⟩
  replace HS : St W M W1 [blk g [.slice A ws.length c, .int .i64 n] 113, row A ws.length c (ci .u64 ws) 110 1] := HS.join (F := []) (G := []) H_
  clear H_
  refine ql (.bool true) (by kernel_rfl) (by kernel_rfl) ?_
  refine ql (.bool true) (by kernel_rfl) (by kernel_rfl) ?_
  refine qln (by kernel_rfl) ?_
  refine qln (by kernel_rfl) ?_
  refine qln (by kernel_rfl) ?_
  refine ql (.bool true) (by kernel_rfl) (by kernel_rfl) ?_
  refine wpList_nil ?_
  refine x_then ?_
  refine wp_cond_true (by kernel_rfl) ?_
  refine wp_seq ?_
  refine wp_region_lit ?_
  refine ql (.bool false) (by kernel_rfl) (by kernel_rfl) ?_
  refine wpList_nil ?_
  refine x_then ?_
  refine wp_ret ?_
  refine x_thenR ?_
  refine ret_ (.bool false) (by kernel_rfl) ?_
  exact ⟨rfl, HS⟩

set_option maxRecDepth 100000 in
set_option maxHeartbeats 1000000 in
theorem dadd_nil (i : Int) (W : World) : Calls Try.prog 71 #[.pointer none, .int .i64 i] W fun e W' => e = .returned (.bool false) ∧ St W (owns []) W' [] := by
  have HS : St W (owns []) W [] := St.start W _
  refine calls_enter [.pointer none, .int .i64 i, undef, undef, undef, undef, undef, undef, undef, undef, undef, undef, undef, undef, undef, undef, undef, undef, undef, undef, undef, undef, undef, undef, undef, undef, undef] Try.func71 rfl (by kernel_rfl) ?_
  refine wp_seq ?_
  refine wp_region_lit ?_
  refine ql (.bool false) (by kernel_rfl) (by kernel_rfl) ?_
  refine wpList_nil ?_
  refine x_then ?_
  refine wp_seq ?_
  refine wp_seq ?_
  refine wp_region_lit ?_
  refine ql (.pointer none) (by kernel_rfl) (by kernel_rfl) ?_
  refine ql (.int .i64 i) (by kernel_rfl) (by kernel_rfl) ?_
  refine qc (f := 87) (args := #[.pointer none, .int .i64 i]) (by kernel_rfl) (R_call #[.pointer none, .int .i64 i] Try.func87 (by kernel_rfl) (by kernel_rfl) (by kernel_rfl)) ?_
  refine (dis_nil _ _).mono ?_
  rintro e W1 ⟨rfl, H_⟩
  refine ⟨_, rfl, ?_⟩
  replace HS : St W (owns []) W1 [] := HS.join (F := []) (G := []) H_
  clear H_
  refine ql (.bool true) (by kernel_rfl) (by kernel_rfl) ?_
  refine ql (.bool true) (by kernel_rfl) (by kernel_rfl) ?_
  refine qln (by kernel_rfl) ?_
  refine qln (by kernel_rfl) ?_
  refine qln (by kernel_rfl) ?_
  refine ql (.bool true) (by kernel_rfl) (by kernel_rfl) ?_
  refine wpList_nil ?_
  refine x_then ?_
  refine wp_cond_true (by kernel_rfl) ?_
  refine wp_seq ?_
  refine wp_region_lit ?_
  refine ql (.bool false) (by kernel_rfl) (by kernel_rfl) ?_
  refine wpList_nil ?_
  refine x_then ?_
  refine wp_ret ?_
  refine x_thenR ?_
  refine ret_ (.bool false) (by kernel_rfl) ?_
  exact ⟨rfl, HS⟩

set_option maxRecDepth 100000 in
set_option maxHeartbeats 1000000 in
theorem dcount_nil (W : World) : Calls Try.prog 74 #[.pointer none] W fun e W' => e = .returned (.int .i64 0) ∧ St W (owns []) W' [] := by
  have HS : St W (owns []) W [] := St.start W _
  refine calls_enter [.pointer none, undef, undef, undef, undef, undef, undef, undef, undef, undef, undef, undef, undef, undef, undef, undef, undef, undef, undef, undef, undef, undef, undef] Try.func74 rfl (by kernel_rfl) ?_
  refine wp_seq ?_
  refine wp_region_lit ?_
  refine ql (.int .i64 0) (by kernel_rfl) (by kernel_rfl) ?_
  refine wpList_nil ?_
  refine x_then ?_
  refine wp_seq ?_
  refine wp_region_lit ?_
  refine ql (.int .i64 0) (by kernel_rfl) (by kernel_rfl) ?_
  refine wpList_nil ?_
  refine x_then ?_
  refine wp_seq ?_
  refine wp_seq ?_
  refine wp_region_lit ?_
  refine ql (.pointer none) (by kernel_rfl) (by kernel_rfl) ?_
  refine ql (.bool false) (by kernel_rfl) (by kernel_rfl) ?_
  refine wpList_nil ?_
  refine x_then ?_
  refine wp_cond_false (by kernel_rfl) ?_
  refine wp_skip ?_
  refine x_then ?_
  refine wp_seq ?_
  refine wp_region_lit ?_
  refine ql (.int .i64 0) (by kernel_rfl) (by kernel_rfl) ?_
  refine ql (.int .i64 0) (by kernel_rfl) (by kernel_rfl) ?_
  refine wpList_nil ?_
  refine x_then ?_
  refine wp_ret ?_
  refine ret_ (.int .i64 0) (by kernel_rfl) ?_
  exact ⟨rfl, HS⟩

set_option maxRecDepth 100000 in
set_option maxHeartbeats 1000000 in
theorem dcount (g c : Nat) (A : Option Addr) (ws : List Int) (n : Int) (L : List Int) (W : World) (hz0 : W.cell? ⟨g, 0, none⟩ = some (.slice A ws.length c)) (hz1 : W.cell? ⟨g, 1, none⟩ = some (.int .i64 n)) (hr : Rd W A (ci .u64 ws)) (hR : Rep ws n L) (hn : n ≤ 1048576) : Calls Try.prog 74 #[.pointer (some ⟨g, 0, none⟩)] W fun e W' => e = .returned (.int .i64 (L.length : Int)) ∧ St W (owns []) W' [] := by
  have HS : St W (owns []) W [] := St.start W _
  have hlen := hR.len
  refine calls_enter [.pointer (some ⟨g, 0, none⟩), undef, undef, undef, undef, undef, undef, undef, undef, undef, undef, undef, undef, undef, undef, undef, undef, undef, undef, undef, undef, undef, undef] Try.func74 rfl (by kernel_rfl) ?_
  refine wp_seq ?_
  refine wp_region_lit ?_
  refine ql (.int .i64 0) (by kernel_rfl) (by kernel_rfl) ?_
  refine wpList_nil ?_
  refine x_then ?_
  refine wp_seq ?_
  refine wp_region_lit ?_
  refine ql (.int .i64 0) (by kernel_rfl) (by kernel_rfl) ?_
  refine wpList_nil ?_
  refine x_then ?_
  refine wp_seq ?_
  refine wp_seq ?_
  refine wp_region_lit ?_
  refine ql (.pointer (some ⟨g, 0, none⟩)) (by kernel_rfl) (by kernel_rfl) ?_
  refine ql (.bool true) (by kernel_rfl) (by kernel_rfl) ?_
  refine wpList_nil ?_
  refine x_then ?_
  refine wp_cond_true (by kernel_rfl) ?_
  refine wp_seq ?_
  refine wp_region_lit ?_
  refine ql (.pointer (some ⟨g, 0, none⟩)) (by kernel_rfl) (by kernel_rfl) ?_
  refine ql (.pointer (some ⟨g, 0, none⟩)) (by kernel_rfl) (by kernel_rfl) ?_
  refine ql (.pointer (some ⟨g, 0, none⟩)) (by kernel_rfl) (by kernel_rfl) ?_
  refine ql (.slice A ws.length c) (by kernel_rfl) (R_load (p := ⟨g, 0, none⟩) (by kernel_rfl) (by kernel_rfl) (by kernel_rfl) (HS.old0 hz0)) ?_
  refine ql (.int .i64 (ws.length : Int)) (by kernel_rfl) (by kernel_rfl) ?_
  refine ql (.int .i64 0) (by kernel_rfl) (by kernel_rfl) ?_
  refine wpList_nil ?_
  refine x_then ?_
  refine wp_block ?_
  refine wp_loop_ghost (fun kq a' w' => ∃ (J1 : Nat → Value) (k : Int) (m : Int) , a' = Fr [.pointer (some ⟨g, 0, none⟩), undef, .int .i64 0, .int .i64 m, undef, (J1 5), .pointer (some ⟨g, 0, none⟩), .bool true, .pointer (some ⟨g, 0, none⟩), .pointer (some ⟨g, 0, none⟩), .pointer (some ⟨g, 0, none⟩), .slice A ws.length c, .int .i64 (ws.length : Int), .int .i64 k, (J1 14), (J1 15), (J1 16), (J1 17), (J1 18), (J1 19), (J1 20), (J1 21), undef] ∧ kq = (ws.length - (k).toNat) ∧ (0 ≤ k) ∧ (k ≤ ws.length) ∧ (m = (cntW ws (k).toNat : Nat)) ∧ St W (owns []) w' []) (ws.length - ((0 : Int)).toNat) ⟨(fun k_ : Nat => List.getD [.pointer (some ⟨g, 0, none⟩), undef, .int .i64 0, .int .i64 0, undef, undef, .pointer (some ⟨g, 0, none⟩), .bool true, .pointer (some ⟨g, 0, none⟩), .pointer (some ⟨g, 0, none⟩), .pointer (some ⟨g, 0, none⟩), .slice A ws.length c, .int .i64 (ws.length : Int), .int .i64 0, undef, undef, undef, undef, undef, undef, undef, undef, undef] k_ undef), (0 : Int), (0 : Int), congrArg Fr (by kernel_rfl), rfl, by omega, by omega, rfl, HS⟩ ?_
  clear HS
  intro kq2 a' W3 hrel
  obtain ⟨J1, k, m, rfl, hk, k0, k1, hm, HS⟩ := hrel
  have hcl := cntW_le ws k.toNat
  refine wp_seq ?_
  refine wp_region_lit ?_
  by_cases hc4 : k < (ws.length : Int)
  · skip
    refine ql (.bool true) (by kernel_rfl) (R_bool (p := k < (ws.length : Int)) (by kernel_rfl) (hc4)) ?_
    refine wpList_nil ?_
    refine x_then ?_
    refine wp_seq ?_
    refine wp_cond_true (by kernel_rfl) ?_
    refine wp_skip ?_
    refine x_then ?_
    refine wp_seq ?_
    refine wp_block ?_
    refine wp_seq ?_
    refine wp_region_lit ?_
    obtain ⟨ad5, rfl⟩ := Rd.isSome_ hr (by rw [ci_len]; omega)
    refine ql (.pointer (some (ad5.add k.toNat))) (by kernel_rfl) (R_indexA1 (k := .i64) (p := ad5) (n := ws.length) (c := c) (i := k) (by kernel_rfl) (by kernel_rfl) Try.underlying111 (by kernel_rfl) (by omega) (by omega)) ?_
    refine ql (.int .u64 (rdI ws k)) (by kernel_rfl) (R_load (p := ad5.add k.toNat) (by kernel_rfl) (by kernel_rfl) (by kernel_rfl) (HS.old0 (hr.at_ (ci_rd (i := k) (by omega) (by omega))))) ?_
    refine ql (.int .u64 (rdI ws k)) (by kernel_rfl) (by kernel_rfl) ?_
    refine wpList_nil ?_
    refine x_then ?_
    refine wp_region_lit ?_
    refine ql (.int .i64 m) (by kernel_rfl) (by kernel_rfl) ?_
    refine ql (.int .u64 (rdI ws k)) (by kernel_rfl) (by kernel_rfl) ?_
    refine qc (f := 89) (args := #[.int .u64 (rdI ws k)]) (by kernel_rfl) (R_call #[.int .u64 (rdI ws k)] Try.func89 (by kernel_rfl) (by kernel_rfl) (by kernel_rfl)) ?_
    obtain ⟨wv, hwv, hwl⟩ := (hR.rd k0 (by omega : k < ws.length)).nat
    rw [hwv]
    refine (ones64 wv _ hwl).mono ?_
    rintro e W6 ⟨rfl, H_⟩
    refine ⟨_, rfl, ?_⟩
    replace HS : St W (owns []) W6 [] := HS.join (F := []) (G := []) H_
    clear H_
    have hpc := pc_le 64 wv
    refine ql (.int .i64 (m + ((pc 64 wv : Nat) : Int))) (by kernel_rfl) (R_int (by kernel_rfl) (w64 (by omega))) ?_
    refine ql (.int .i64 (m + ((pc 64 wv : Nat) : Int))) (by kernel_rfl) (by kernel_rfl) ?_
    refine wpList_nil ?_
    refine x_inb ?_
    refine x_then ?_
    refine wp_region_lit ?_
    refine ql (.int .i64 (k + 1)) (by kernel_rfl) (R_int (by kernel_rfl) (w64 (by omega))) ?_
    refine ql (.int .i64 (k + 1)) (by kernel_rfl) (by kernel_rfl) ?_
    refine wpList_nil ?_
    have hstep : cntW ws (k + 1).toNat = cntW ws k.toNat + pc 64 wv := by rw [show (k + 1).toNat = k.toNat + 1 by omega, cntW_succ, show ((k.toNat : Nat) : Int) = k by omega, hwv, Int.toNat_natCast]
    refine x_then ?_
    exact ⟨ws.length - (k + 1).toNat, by omega, (fun k_ : Nat => List.getD [.pointer (some ⟨g, 0, none⟩), undef, .int .i64 0, .int .i64 (m + ((pc 64 wv : Nat) : Int)), undef, .int .u64 (wv : Int), .pointer (some ⟨g, 0, none⟩), .bool true, .pointer (some ⟨g, 0, none⟩), .pointer (some ⟨g, 0, none⟩), .pointer (some ⟨g, 0, none⟩), .slice (some ad5) ws.length c, .int .i64 (ws.length : Int), .int .i64 (k + 1), .bool true, .pointer (some (ad5.add k.toNat)), .int .u64 (wv : Int), .int .i64 m, .int .u64 (wv : Int), .int .i64 ((pc 64 wv : Nat) : Int), .int .i64 (m + ((pc 64 wv : Nat) : Int)), .int .i64 (k + 1), undef] k_ undef), k + 1, m + ((pc 64 wv : Nat) : Int), congrArg Fr (by kernel_rfl), rfl, by omega, by omega, by omega, HS⟩
  · skip
    refine ql (.bool false) (by kernel_rfl) (R_nbool (p := k < (ws.length : Int)) (by kernel_rfl) (hc4)) ?_
    refine wpList_nil ?_
    refine x_then ?_
    refine wp_seq ?_
    refine wp_cond_false (by kernel_rfl) ?_
    refine wp_exit ?_
    refine x_thenE ?_
    refine x_thenE ?_
    refine x_hit ?_
    refine x_then ?_
    refine wp_seq ?_
    refine wp_region_lit ?_
    refine ql (.int .i64 m) (by kernel_rfl) (by kernel_rfl) ?_
    refine ql (.int .i64 m) (by kernel_rfl) (by kernel_rfl) ?_
    refine wpList_nil ?_
    refine x_then ?_
    refine wp_ret ?_
    refine ret_ (.int .i64 m) (by kernel_rfl) ?_
    have hk9 : k.toNat = ws.length := by omega
    rw [hk9, hR.cnt] at hm
    subst hm
    exact ⟨rfl, HS⟩

open Go.Shelf

theorem TabAt64.old {W0 W : World} {M : Nat → Prop} {L : List Ent} (h : TabAt64 W0) (HS : St W0 M W L) (h0 : 0 < W0.heap.size) (hm : ¬ M 0) : TabAt64 W := fun j hj => by
  have h1 := h j hj
  unfold World.cell? at h1 ⊢
  rw [HS.kept.block 0 h0 hm]
  exact h1
theorem TabAt64.pos {W : World} (h : TabAt64 W) : 0 < W.heap.size := by
  have h1 := h 0 (by decide)
  unfold World.cell? at h1
  refine Nat.pos_of_ne_zero fun e => ?_
  have hn : W.heap[0]? = none := by rw [Array.getElem?_eq_none_iff]; omega
  rw [hn] at h1; simp at h1
theorem TabAt64.old0 {W0 W : World} {L : List Ent} (h : TabAt64 W0) (HS : St W0 (owns []) W L) : TabAt64 W := h.old HS h.pos (by rintro ⟨e, he, _⟩; cases he)
open Go.Shelf

set_option maxRecDepth 100000 in
set_option maxHeartbeats 1000000 in
theorem dor_nil_l (g h : Nat) (W : World) : Calls Try.prog 92 #[.pointer none, .pointer (some ⟨h, 0, none⟩)] W fun e W' => e = .returned (.bool false) ∧ St W (owns []) W' [] := by
  have HS : St W (owns []) W [] := St.start W _
  refine calls_enter ((.pointer none) :: (.pointer (some ⟨h, 0, none⟩)) :: undef :: undef :: undef :: undef :: undef :: undef :: undef :: undef :: undef :: undef :: undef :: undef :: undef :: undef :: undef :: undef :: undef :: undef :: undef :: undef :: undef :: undef :: undef :: undef :: undef :: undef :: undef :: undef :: undef :: undef :: undef :: undef :: undef :: undef :: undef :: undef :: undef :: undef :: undef :: undef :: undef :: undef :: undef :: undef :: undef :: undef :: undef :: undef :: undef :: undef :: undef :: undef :: undef :: undef :: undef :: undef :: undef :: []) Try.func92 rfl (by kernel_rfl) ?_
  refine wp_seq ?_
  refine wp_region_lit ?_
  refine ql (.bool false) (by kernel_rfl) (by kernel_rfl) ?_
  refine wpList_nil ?_
  refine x_then ?_
  refine wp_seq ?_
  refine wp_seq ?_
  refine rg_still HS 16 (by kernel_rfl) (by kernel_rfl) ?_
  intro W1 H_ HK_
  simp only [List.take_succ_cons, List.take_zero, List.drop_succ_cons, List.drop_zero]
  replace HS : St W (owns []) W1 [] := H_
  clear H_
  clear HK_
  refine qs (.pointer none) (by kernel_rfl) (by kernel_rfl) ?_
  refine qs (.bool true) (by kernel_rfl) (by kernel_rfl) ?_
  refine qs (.bool true) (by kernel_rfl) (by kernel_rfl) ?_
  refine qsn (by kernel_rfl) ?_
  refine qsn (by kernel_rfl) ?_
  refine qs (.bool true) (by kernel_rfl) (by kernel_rfl) ?_
  refine qs (.bool true) (by kernel_rfl) (by kernel_rfl) ?_
  refine qsn (by kernel_rfl) ?_
  refine qsn (by kernel_rfl) ?_
  refine qsn (by kernel_rfl) ?_
  refine qsn (by kernel_rfl) ?_
  refine qsn (by kernel_rfl) ?_
  refine qsn (by kernel_rfl) ?_
  refine qsn (by kernel_rfl) ?_
  refine qsn (by kernel_rfl) ?_
  refine qsn (by kernel_rfl) ?_
  refine wpStill_nil ?_
  refine ql (.bool true) (by kernel_rfl) (by kernel_rfl) ?_
  refine wpList_nil ?_
  refine x_then ?_
  refine wp_cond_true (by kernel_rfl) ?_
  refine wp_seq ?_
  refine wp_region_lit ?_
  refine ql (.bool false) (by kernel_rfl) (by kernel_rfl) ?_
  refine wpList_nil ?_
  refine x_then ?_
  refine wp_ret ?_
  refine x_thenR ?_
  refine ret_ (.bool false) (by kernel_rfl) ?_
  exact ⟨rfl, HS⟩

set_option maxRecDepth 100000 in
set_option maxHeartbeats 1000000 in
theorem dor (g c : Nat) (A : Option Addr) (ws : List Int) (n : Int) (h c2 : Nat) (B : Option Addr) (vs : List Int) (L M : List Int) (W : World) (M_ : Nat → Prop) (HS : St W M_ W [blk g [.slice A ws.length c, .int .i64 n] 113, row A ws.length c (ci .u64 ws) 110 1, blk h [.slice B vs.length c2, .int .i64 n] 113, row B vs.length c2 (ci .u64 vs) 110 1]) (hR : Rep ws n L) (hM : Rep vs n M) (hn : n ≤ 1048576) : Calls Try.prog 92 #[.pointer (some ⟨g, 0, none⟩), .pointer (some ⟨h, 0, none⟩)] W fun e W' => ∃ ws', e = .returned (.bool (newB L M)) ∧ St W M_ W' [blk g [.slice A ws'.length c, .int .i64 n] 113, row A ws'.length c (ci .u64 ws') 110 1, blk h [.slice B vs.length c2, .int .i64 n] 113, row B vs.length c2 (ci .u64 vs) 110 1] ∧ Rep ws' n (uni L M) := by
  have hwl := hR.len
  have hvl := hM.len
  have hrc := HS.rcap (i := 1) rfl
  refine calls_enter ((.pointer (some ⟨g, 0, none⟩)) :: (.pointer (some ⟨h, 0, none⟩)) :: undef :: undef :: undef :: undef :: undef :: undef :: undef :: undef :: undef :: undef :: undef :: undef :: undef :: undef :: undef :: undef :: undef :: undef :: undef :: undef :: undef :: undef :: undef :: undef :: undef :: undef :: undef :: undef :: undef :: undef :: undef :: undef :: undef :: undef :: undef :: undef :: undef :: undef :: undef :: undef :: undef :: undef :: undef :: undef :: undef :: undef :: undef :: undef :: undef :: undef :: undef :: undef :: undef :: undef :: undef :: undef :: undef :: []) Try.func92 rfl (by kernel_rfl) ?_
  refine wp_seq ?_
  refine wp_region_lit ?_
  refine ql (.bool false) (by kernel_rfl) (by kernel_rfl) ?_
  refine wpList_nil ?_
  refine x_then ?_
  refine wp_seq ?_
  refine wp_seq ?_
  refine rg_still HS 16 (by kernel_rfl) (by kernel_rfl) ?_
  intro W1 H_ HK_
  simp only [List.take_succ_cons, List.take_zero, List.drop_succ_cons, List.drop_zero]
  replace HS : St W M_ W1 [blk g [.slice A ws.length c, .int .i64 n] 113, row A ws.length c (ci .u64 ws) 110 1, blk h [.slice B vs.length c2, .int .i64 n] 113, row B vs.length c2 (ci .u64 vs) 110 1] := H_
  clear H_
  clear HK_
  refine qs (.pointer (some ⟨g, 0, none⟩)) (by kernel_rfl) (by kernel_rfl) ?_
  refine qs (.bool false) (by kernel_rfl) (by kernel_rfl) ?_
  refine qs (.bool false) (by kernel_rfl) (by kernel_rfl) ?_
  refine qs (.pointer (some ⟨h, 0, none⟩)) (by kernel_rfl) (by kernel_rfl) ?_
  refine qs (.bool false) (by kernel_rfl) (by kernel_rfl) ?_
  refine qs (.bool false) (by kernel_rfl) (by kernel_rfl) ?_
  refine qs (.bool false) (by kernel_rfl) (by kernel_rfl) ?_
  refine qs (.pointer (some ⟨g, 0, none⟩)) (by kernel_rfl) (by kernel_rfl) ?_
  refine qs (.pointer (some ⟨g, 0, none⟩)) (by kernel_rfl) (by kernel_rfl) ?_
  refine qs (.pointer (some ⟨g, 1, none⟩)) (by kernel_rfl) (by kernel_rfl) ?_
  refine qs (.int .i64 n) (by kernel_rfl) (R_load (p := ⟨g, 1, none⟩) (by kernel_rfl) (by kernel_rfl) (by kernel_rfl) (HS.cell (i := 0) (j := 1) rfl rfl)) ?_
  refine qs (.pointer (some ⟨h, 0, none⟩)) (by kernel_rfl) (by kernel_rfl) ?_
  refine qs (.pointer (some ⟨h, 0, none⟩)) (by kernel_rfl) (by kernel_rfl) ?_
  refine qs (.pointer (some ⟨h, 1, none⟩)) (by kernel_rfl) (by kernel_rfl) ?_
  refine qs (.int .i64 n) (by kernel_rfl) (R_load (p := ⟨h, 1, none⟩) (by kernel_rfl) (by kernel_rfl) (by kernel_rfl) (HS.cell (i := 2) (j := 1) rfl rfl)) ?_
  refine qs (.bool false) (by kernel_rfl) (R_beq (b := (n != n)) (by kernel_rfl) (bne_f (by omega))) ?_
  refine wpStill_nil ?_
  refine ql (.bool false) (by kernel_rfl) (by kernel_rfl) ?_
  refine wpList_nil ?_
  refine x_then ?_
  refine wp_cond_false (by kernel_rfl) ?_
  refine wp_skip ?_
  refine x_then ?_
  refine wp_seq ?_
  refine wp_region_lit ?_
  refine ql (.int .u64 0) (by kernel_rfl) (by kernel_rfl) ?_
  refine wpList_nil ?_
  refine x_then ?_
  refine wp_seq ?_
  refine wp_seq ?_
  refine wp_region_lit ?_
  refine ql (.pointer (some ⟨h, 0, none⟩)) (by kernel_rfl) (by kernel_rfl) ?_
  refine ql (.pointer (some ⟨h, 0, none⟩)) (by kernel_rfl) (by kernel_rfl) ?_
  refine ql (.pointer (some ⟨h, 0, none⟩)) (by kernel_rfl) (by kernel_rfl) ?_
  refine ql (.slice B vs.length c2) (by kernel_rfl) (R_load (p := ⟨h, 0, none⟩) (by kernel_rfl) (by kernel_rfl) (by kernel_rfl) (HS.cell (i := 2) (j := 0) rfl rfl)) ?_
  refine ql (.int .i64 (vs.length : Int)) (by kernel_rfl) (by kernel_rfl) ?_
  refine ql (.int .i64 0) (by kernel_rfl) (by kernel_rfl) ?_
  refine wpList_nil ?_
  refine x_then ?_
  refine wp_block ?_
  refine wp_loop_ghost (fun kq a' w' => ∃ (J2 : Nat → Value) (k : Int) (ch : Int) (cur : List Int) , a' = Fr ((.pointer (some ⟨g, 0, none⟩)) :: (.pointer (some ⟨h, 0, none⟩)) :: undef :: undef :: (.bool false) :: (.int .u64 ch) :: ((J2 6)) :: ((J2 7)) :: (.pointer (some ⟨g, 0, none⟩)) :: (.bool false) :: (.bool false) :: (.pointer (some ⟨h, 0, none⟩)) :: (.bool false) :: (.bool false) :: (.bool false) :: (.pointer (some ⟨g, 0, none⟩)) :: (.pointer (some ⟨g, 0, none⟩)) :: (.pointer (some ⟨g, 1, none⟩)) :: (.int .i64 n) :: (.pointer (some ⟨h, 0, none⟩)) :: (.pointer (some ⟨h, 0, none⟩)) :: (.pointer (some ⟨h, 1, none⟩)) :: (.int .i64 n) :: (.bool false) :: (.bool false) :: (.pointer (some ⟨h, 0, none⟩)) :: (.pointer (some ⟨h, 0, none⟩)) :: (.pointer (some ⟨h, 0, none⟩)) :: (.slice B vs.length c2) :: (.int .i64 (vs.length : Int)) :: (.int .i64 k) :: ((J2 31)) :: ((J2 32)) :: ((J2 33)) :: ((J2 34)) :: ((J2 35)) :: ((J2 36)) :: ((J2 37)) :: ((J2 38)) :: ((J2 39)) :: ((J2 40)) :: ((J2 41)) :: ((J2 42)) :: ((J2 43)) :: ((J2 44)) :: ((J2 45)) :: ((J2 46)) :: ((J2 47)) :: ((J2 48)) :: ((J2 49)) :: ((J2 50)) :: ((J2 51)) :: ((J2 52)) :: ((J2 53)) :: ((J2 54)) :: ((J2 55)) :: ((J2 56)) :: undef :: undef :: []) ∧ kq = (ws.length - (k).toNat) ∧ (0 ≤ k) ∧ (k ≤ ws.length) ∧ (Jn ws vs cur k ch) ∧ St W M_ w' [blk g [.slice A ws.length c, .int .i64 n] 113, row A ws.length c (ci .u64 cur) 110 1, blk h [.slice B vs.length c2, .int .i64 n] 113, row B vs.length c2 (ci .u64 vs) 110 1]) (ws.length - ((0 : Int)).toNat) ⟨(fun k_ : Nat => List.getD ((.pointer (some ⟨g, 0, none⟩)) :: (.pointer (some ⟨h, 0, none⟩)) :: undef :: undef :: (.bool false) :: (.int .u64 0) :: undef :: undef :: (.pointer (some ⟨g, 0, none⟩)) :: (.bool false) :: (.bool false) :: (.pointer (some ⟨h, 0, none⟩)) :: (.bool false) :: (.bool false) :: (.bool false) :: (.pointer (some ⟨g, 0, none⟩)) :: (.pointer (some ⟨g, 0, none⟩)) :: (.pointer (some ⟨g, 1, none⟩)) :: (.int .i64 n) :: (.pointer (some ⟨h, 0, none⟩)) :: (.pointer (some ⟨h, 0, none⟩)) :: (.pointer (some ⟨h, 1, none⟩)) :: (.int .i64 n) :: (.bool false) :: (.bool false) :: (.pointer (some ⟨h, 0, none⟩)) :: (.pointer (some ⟨h, 0, none⟩)) :: (.pointer (some ⟨h, 0, none⟩)) :: (.slice B vs.length c2) :: (.int .i64 (vs.length : Int)) :: (.int .i64 0) :: undef :: undef :: undef :: undef :: undef :: undef :: undef :: undef :: undef :: undef :: undef :: undef :: undef :: undef :: undef :: undef :: undef :: undef :: undef :: undef :: undef :: undef :: undef :: undef :: undef :: undef :: undef :: undef :: []) k_ undef), (0 : Int), (0 : Int), ws, congrArg Fr (by kernel_rfl), rfl, by omega, by omega, Jn.zero ws vs, HS⟩ ?_
  clear HS
  intro kq3 a' W4 hrel
  obtain ⟨J2, k, ch, cur, rfl, hk, k0, k1, hj, HS⟩ := hrel
  have hcl := hj.len
  refine wp_seq ?_
  refine wp_region_lit ?_
  by_cases hc5 : k < (vs.length : Int)
  · skip
    refine ql (.bool true) (by kernel_rfl) (R_bool (p := k < (vs.length : Int)) (by kernel_rfl) (hc5)) ?_
    refine wpList_nil ?_
    refine x_then ?_
    refine wp_seq ?_
    refine wp_cond_true (by kernel_rfl) ?_
    refine wp_skip ?_
    refine x_then ?_
    refine wp_seq ?_
    refine wp_block ?_
    refine wp_seq ?_
    refine wp_region_lit ?_
    refine ql (.int .i64 k) (by kernel_rfl) (by kernel_rfl) ?_
    obtain ⟨g6, rfl⟩ := St.rsome HS (i := 3) rfl (by omega)
    refine ql (.pointer (some ⟨g6, k.toNat, none⟩)) (by kernel_rfl) (R_index1 (k := .i64) (g := g6) (n := vs.length) (c := c2) (i := k) (by kernel_rfl) (by kernel_rfl) Try.underlying111 (by kernel_rfl) (by omega) (by omega)) ?_
    refine ql (.int .u64 (rdI vs k)) (by kernel_rfl) (R_load (p := ⟨g6, k.toNat, none⟩) (by kernel_rfl) (by kernel_rfl) (by kernel_rfl) (HS.rcell (i := 3) rfl (ci_rd (i := k) (by omega) (by omega)))) ?_
    refine ql (.int .i64 k) (by kernel_rfl) (by kernel_rfl) ?_
    refine ql (.int .u64 (rdI vs k)) (by kernel_rfl) (by kernel_rfl) ?_
    refine wpList_nil ?_
    refine x_then ?_
    refine wp_seq ?_
    refine wp_region_lit ?_
    refine ql (.int .u64 ch) (by kernel_rfl) (by kernel_rfl) ?_
    refine ql (.int .u64 (rdI vs k)) (by kernel_rfl) (by kernel_rfl) ?_
    refine ql (.pointer (some ⟨g, 0, none⟩)) (by kernel_rfl) (by kernel_rfl) ?_
    refine ql (.pointer (some ⟨g, 0, none⟩)) (by kernel_rfl) (by kernel_rfl) ?_
    refine ql (.pointer (some ⟨g, 0, none⟩)) (by kernel_rfl) (by kernel_rfl) ?_
    refine ql (.slice A ws.length c) (by kernel_rfl) (R_load (p := ⟨g, 0, none⟩) (by kernel_rfl) (by kernel_rfl) (by kernel_rfl) (HS.cell (i := 0) (j := 0) rfl rfl)) ?_
    refine ql (.int .i64 k) (by kernel_rfl) (by kernel_rfl) ?_
    obtain ⟨g7, rfl⟩ := St.rsome HS (i := 1) rfl (by omega)
    refine ql (.pointer (some ⟨g7, k.toNat, none⟩)) (by kernel_rfl) (R_index1 (k := .i64) (g := g7) (n := ws.length) (c := c) (i := k) (by kernel_rfl) (by kernel_rfl) Try.underlying111 (by kernel_rfl) (by omega) (by omega)) ?_
    refine ql (.int .u64 (rdI cur k)) (by kernel_rfl) (R_load (p := ⟨g7, k.toNat, none⟩) (by kernel_rfl) (by kernel_rfl) (by kernel_rfl) (HS.rcell (i := 1) rfl (ci_rd (i := k) (by omega) (by omega)))) ?_
    refine ql (.int .u64 (anW (rdI vs k) (rdI cur k))) (by kernel_rfl) (R_an (by kernel_rfl) (by kernel_rfl) (hM.rd k0 (by omega)) (by rw [hj.hi k (by omega) (by omega)]; exact hR.rd k0 (by omega))) ?_
    refine ql (.int .u64 (orW ch (anW (rdI vs k) (rdI cur k)))) (by kernel_rfl) (R_or (by kernel_rfl) (by kernel_rfl) hj.u (u_an (hM.rd k0 (by omega)) (by rw [hj.hi k (by omega) (by omega)]; exact hR.rd k0 (by omega)))) ?_
    refine ql (.int .u64 (orW ch (anW (rdI vs k) (rdI cur k)))) (by kernel_rfl) (by kernel_rfl) ?_
    refine wpList_nil ?_
    refine x_then ?_
    refine wp_region_lit ?_
    refine ql (.pointer (some ⟨g, 0, none⟩)) (by kernel_rfl) (by kernel_rfl) ?_
    refine ql (.pointer (some ⟨g, 0, none⟩)) (by kernel_rfl) (by kernel_rfl) ?_
    refine ql (.pointer (some ⟨g, 0, none⟩)) (by kernel_rfl) (by kernel_rfl) ?_
    refine ql (.slice (some ⟨g7, 0, none⟩) ws.length c) (by kernel_rfl) (R_load (p := ⟨g, 0, none⟩) (by kernel_rfl) (by kernel_rfl) (by kernel_rfl) (HS.cell (i := 0) (j := 0) rfl rfl)) ?_
    refine ql (.int .i64 k) (by kernel_rfl) (by kernel_rfl) ?_
    refine ql (.pointer (some ⟨g7, k.toNat, none⟩)) (by kernel_rfl) (R_index1 (k := .i64) (g := g7) (n := ws.length) (c := c) (i := k) (by kernel_rfl) (by kernel_rfl) Try.underlying111 (by kernel_rfl) (by omega) (by omega)) ?_
    refine ql (.int .u64 (rdI cur k)) (by kernel_rfl) (R_load (p := ⟨g7, k.toNat, none⟩) (by kernel_rfl) (by kernel_rfl) (by kernel_rfl) (HS.rcell (i := 1) rfl (ci_rd (i := k) (by omega) (by omega)))) ?_
    refine ql (.int .u64 (rdI vs k)) (by kernel_rfl) (by kernel_rfl) ?_
    refine ql (.int .u64 (orW (rdI cur k) (rdI vs k))) (by kernel_rfl) (R_or (by kernel_rfl) (by kernel_rfl) (by rw [hj.hi k (by omega) (by omega)]; exact hR.rd k0 (by omega)) (hM.rd k0 (by omega))) ?_
    refine ql (.pointer (some ⟨g7, k.toNat, none⟩)) (by kernel_rfl) (R_index1 (k := .i64) (g := g7) (n := ws.length) (c := c) (i := k) (by kernel_rfl) (by kernel_rfl) Try.underlying111 (by kernel_rfl) (by omega) (by omega)) ?_
    refine kr (v := .int .u64 (orW (rdI cur k) (rdI vs k))) HS 1 rfl (k.toNat) [.int .u64 (orW (rdI cur k) (rdI vs k))] (by kernel_rfl) (by kernel_rfl) (by kernel_rfl) (by kernel_rfl) (by kernel_rfl) (one_ (by kernel_rfl)) (by rw [ci_len]; first | omega | (simp only [List.length_singleton]; omega)) rfl ?_
    intro W8 H_
    obtain ⟨xs9, xs9_⟩ : ∃ z_ : List Int, z_ = (cur).set k.toNat (orW (rdI cur k) (rdI vs k)) := ⟨_, rfl⟩
    replace HS : St W M_ W8 [blk g [.slice (some ⟨g7, 0, none⟩) ws.length c, .int .i64 n] 113, row (some ⟨g7, 0, none⟩) ws.length c (ci .u64 xs9) 110 1, blk h [.slice (some ⟨g6, 0, none⟩) vs.length c2, .int .i64 n] 113, row (some ⟨g6, 0, none⟩) vs.length c2 (ci .u64 vs) 110 1] := H_.cast_ (by rw [xs9_, ← ci_set]; rfl)
    clear H_
    have xs9l : xs9.length = ws.length := by rw [xs9_, List.length_set]; first | done | omega
    refine wpList_nil ?_
    refine x_inb ?_
    refine x_then ?_
    refine wp_region_lit ?_
    refine ql (.int .i64 (k + 1)) (by kernel_rfl) (R_int (by kernel_rfl) (w64 (by omega))) ?_
    refine ql (.int .i64 (k + 1)) (by kernel_rfl) (by kernel_rfl) ?_
    refine wpList_nil ?_
    refine x_then ?_
    exact ⟨ws.length - (k + 1).toNat, by omega, (fun k_ : Nat => List.getD ((.pointer (some ⟨g, 0, none⟩)) :: (.pointer (some ⟨h, 0, none⟩)) :: undef :: undef :: (.bool false) :: (.int .u64 (orW ch (anW (rdI vs k) (rdI cur k)))) :: (.int .i64 k) :: (.int .u64 (rdI vs k)) :: (.pointer (some ⟨g, 0, none⟩)) :: (.bool false) :: (.bool false) :: (.pointer (some ⟨h, 0, none⟩)) :: (.bool false) :: (.bool false) :: (.bool false) :: (.pointer (some ⟨g, 0, none⟩)) :: (.pointer (some ⟨g, 0, none⟩)) :: (.pointer (some ⟨g, 1, none⟩)) :: (.int .i64 n) :: (.pointer (some ⟨h, 0, none⟩)) :: (.pointer (some ⟨h, 0, none⟩)) :: (.pointer (some ⟨h, 1, none⟩)) :: (.int .i64 n) :: (.bool false) :: (.bool false) :: (.pointer (some ⟨h, 0, none⟩)) :: (.pointer (some ⟨h, 0, none⟩)) :: (.pointer (some ⟨h, 0, none⟩)) :: (.slice (some ⟨g6, 0, none⟩) vs.length c2) :: (.int .i64 (vs.length : Int)) :: (.int .i64 (k + 1)) :: (.bool true) :: (.int .i64 k) :: (.pointer (some ⟨g6, k.toNat, none⟩)) :: (.int .u64 (rdI vs k)) :: (.int .u64 ch) :: (.int .u64 (rdI vs k)) :: (.pointer (some ⟨g, 0, none⟩)) :: (.pointer (some ⟨g, 0, none⟩)) :: (.pointer (some ⟨g, 0, none⟩)) :: (.slice (some ⟨g7, 0, none⟩) ws.length c) :: (.int .i64 k) :: (.pointer (some ⟨g7, k.toNat, none⟩)) :: (.int .u64 (rdI cur k)) :: (.int .u64 (anW (rdI vs k) (rdI cur k))) :: (.int .u64 (orW ch (anW (rdI vs k) (rdI cur k)))) :: (.pointer (some ⟨g, 0, none⟩)) :: (.pointer (some ⟨g, 0, none⟩)) :: (.pointer (some ⟨g, 0, none⟩)) :: (.slice (some ⟨g7, 0, none⟩) ws.length c) :: (.int .i64 k) :: (.pointer (some ⟨g7, k.toNat, none⟩)) :: (.int .u64 (rdI cur k)) :: (.int .u64 (rdI vs k)) :: (.int .u64 (orW (rdI cur k) (rdI vs k))) :: (.pointer (some ⟨g7, k.toNat, none⟩)) :: (.int .i64 (k + 1)) :: undef :: undef :: []) k_ undef), k + 1, orW ch (anW (rdI vs k) (rdI cur k)), xs9, congrArg Fr (by kernel_rfl), rfl, by omega, by omega, (by rw [xs9_]; exact hj.step k0 (by omega) (hR.rd k0 (by omega)) (hM.rd k0 (by omega))), HS⟩
  · skip
    refine ql (.bool false) (by kernel_rfl) (R_nbool (p := k < (vs.length : Int)) (by kernel_rfl) (hc5)) ?_
    refine wpList_nil ?_
    refine x_then ?_
    refine wp_seq ?_
    refine wp_cond_false (by kernel_rfl) ?_
    refine wp_exit ?_
    refine x_thenE ?_
    refine x_thenE ?_
    refine x_hit ?_
    refine x_then ?_
    refine wp_seq ?_
    refine wp_region_lit ?_
    refine ql (.int .u64 ch) (by kernel_rfl) (by kernel_rfl) ?_
    by_cases hc10 : ch = (0 : Int)
    · skip
      refine ql (.bool false) (by kernel_rfl) (R_beq (b := (ch != (0 : Int))) (by kernel_rfl) (bne_f (hc10))) ?_
      refine ql (.bool false) (by kernel_rfl) (by kernel_rfl) ?_
      refine wpList_nil ?_
      refine x_then ?_
      refine wp_ret ?_
      refine ret_ (.bool false) (by kernel_rfl) ?_
      have hk9 : k = ws.length := by omega
      rw [hk9] at hj
      obtain ⟨hq, hz9⟩ := hR.join hM hj
      rw [← hcl] at HS
      exact ⟨cur, by rw [newB_f (hz9.1 hc10)], HS, hq⟩
    · skip
      refine ql (.bool true) (by kernel_rfl) (R_beq (b := (ch != (0 : Int))) (by kernel_rfl) (bne_t (hc10))) ?_
      refine ql (.bool true) (by kernel_rfl) (by kernel_rfl) ?_
      refine wpList_nil ?_
      refine x_then ?_
      refine wp_ret ?_
      refine ret_ (.bool true) (by kernel_rfl) ?_
      have hk9 : k = ws.length := by omega
      rw [hk9] at hj
      obtain ⟨hq, hz9⟩ := hR.join hM hj
      rw [← hcl] at HS
      exact ⟨cur, by rw [newB_t (fun h_ => hc10 (hz9.2 h_))], HS, hq⟩

open Go.Shelf

theorem TabAt64.put {W : World} {l : Nat} {o o' : Obj} (h : TabAt64 W) (hl : W.heap[l]? = some o) (ho : o.isCells = false) : TabAt64 (W.putObj l o') := fun j hj => by
  have hp := h j hj
  obtain ⟨o2, h2, h3⟩ := cells_of_cell hp
  refine (World.cell?_of_block (World.putObj_heap_other (fun e => ?_))).trans hp
  rw [e, hl] at h2; cases h2; rw [ho] at h3; cases h3
theorem TabAt64.below {W W' : World} (h : TabAt64 W) (hb : Below W.heap.size W W') : TabAt64 W' := fun j hj => (hb.cell (World.block_lt_of_cell? W _ (h j hj))).trans (h j hj)
/-- What the iterator over a set reads. -/
def DnT (b g c : Nat) (A : Option Addr) (ws : List Int) (n : Int) (W : World) : Prop := DnI b g c A ws n W ∧ TabAt64 W
theorem DnT.below {b g c : Nat} {A : Option Addr} {ws : List Int} {n : Int} {W W' : World} (h : DnT b g c A ws n W) (hb : Below W.heap.size W W') : DnT b g c A ws n W' := ⟨h.1.tail_ hb, h.2.below hb⟩
theorem DnT.put {b g c : Nat} {A : Option Addr} {ws : List Int} {n : Int} {W : World} {l : Nat} {o o' : Obj} (h : DnT b g c A ws n W) (hl : W.heap[l]? = some o) (ho : o.isCells = false) : DnT b g c A ws n (W.putObj l o') := ⟨h.1.put hl ho, h.2.put hl ho⟩
def DnK (b g c : Nat) (A : Option Addr) (ws : List Int) (n : Int) (W W' : World) : Prop := DnT b g c A ws n W → DnT b g c A ws n W'

open Go.Shelf
theorem DnK.of {b g c : Nat} {A : Option Addr} {ws : List Int} {n : Int} {W X Y : World} (h : DnT b g c A ws n W) (hb : Below W.heap.size X Y) : DnK b g c A ws n X Y := fun ⟨⟨p1, p2, p3, p4⟩, p5⟩ =>
  ⟨⟨(hb.cell (World.block_lt_of_cell? W _ h.1.hb)).trans p1, (hb.cell (World.block_lt_of_cell? W _ h.1.h0)).trans p2, (hb.cell (World.block_lt_of_cell? W _ h.1.h1)).trans p3, fun j v hv => by
    obtain ⟨ad, e, hc⟩ := p4 j v hv
    obtain ⟨ad2, e2, hc2⟩ := h.1.hr j v hv
    rw [e] at e2; cases e2
    exact ⟨ad, e, (hb.cell (World.block_lt_of_cell? W _ hc2)).trans hc⟩⟩, fun j hj => (hb.cell (World.block_lt_of_cell? W _ (h.2 j hj))).trans (p5 j hj)⟩
def DnN (b : Nat) (W : World) : Prop := W.cell? ⟨b, 0, none⟩ = some (.pointer none)
theorem DnN.below {b : Nat} {W W' : World} (h : DnN b W) (hb : Below W.heap.size W W') : DnN b W' := (hb.cell (World.block_lt_of_cell? W _ h)).trans h
def DnNK (b : Nat) (W W' : World) : Prop := DnN b W → DnN b W'
theorem DnNK.of {b : Nat} {W X Y : World} (h : DnN b W) (hb : Below W.heap.size X Y) : DnNK b X Y := fun p => (hb.cell (World.block_lt_of_cell? W _ h)).trans p

open Go.Shelf

set_option maxRecDepth 100000 in
set_option maxHeartbeats 1000000 in
theorem r1same (A B : Option Addr) (c c2 : Nat) (L M : List Int) (W : World) (hr : Rd W A (ci .i64 L)) (hl : L.length ≤ 100000) (hs : Rd W B (ci .i64 M)) (hl2 : M.length ≤ 100000) : Calls Try.prog 25 #[.slice A L.length c, .slice B M.length c2] W fun e W' => e = .returned (.bool (decide (L = M))) ∧ St W (owns []) W' [] := by
  have HS : St W (owns []) W [] := St.start W _
  refine calls_enter [.slice A L.length c, .slice B M.length c2, undef, undef, undef, undef, undef, undef, undef, undef, undef, undef, undef, undef, undef, undef, undef, undef, undef, undef, undef, undef, undef, undef, undef, undef] Try.func25 rfl (by kernel_rfl) ?_
  refine wp_seq ?_
  refine wp_region_lit ?_
  refine ql (.bool false) (by kernel_rfl) (by kernel_rfl) ?_
  refine wpList_nil ?_
  refine x_then ?_
  refine wp_seq ?_
  refine wp_seq ?_
  refine wp_region_lit ?_
  refine ql (.slice A L.length c) (by kernel_rfl) (by kernel_rfl) ?_
  refine ql (.int .i64 (L.length : Int)) (by kernel_rfl) (by kernel_rfl) ?_
  refine ql (.slice B M.length c2) (by kernel_rfl) (by kernel_rfl) ?_
  refine ql (.int .i64 (M.length : Int)) (by kernel_rfl) (by kernel_rfl) ?_
  by_cases hc1 : (L.length : Int) = (M.length : Int)
  · skip
    refine ql (.bool false) (by kernel_rfl) (R_beq (b := ((L.length : Int) != (M.length : Int))) (by kernel_rfl) (bne_f (hc1))) ?_
    refine wpList_nil ?_
    refine x_then ?_
    refine wp_cond_false (by kernel_rfl) ?_
    refine wp_skip ?_
    refine x_then ?_
    refine wp_seq ?_
    refine wp_seq ?_
    refine wp_region_lit ?_
    refine ql (.int .i64 0) (by kernel_rfl) (by kernel_rfl) ?_
    refine wpList_nil ?_
    refine x_then ?_
    refine wp_block ?_
    refine wp_loop_ghost (fun kq a' w' => ∃ (J2 : Nat → Value) (k : Int) , a' = Fr [.slice A L.length c, .slice B M.length c2, undef, undef, (J2 4), .int .i64 k, .slice A L.length c, .int .i64 (L.length : Int), .slice B M.length c2, .int .i64 (M.length : Int), .bool false, (J2 11), (J2 12), (J2 13), (J2 14), (J2 15), (J2 16), (J2 17), (J2 18), (J2 19), (J2 20), (J2 21), (J2 22), (J2 23), (J2 24), (J2 25)] ∧ kq = (L.length - (k).toNat) ∧ (0 ≤ k) ∧ (k ≤ L.length) ∧ (eqTo L M k) ∧ St W (owns []) w' []) (L.length - ((0 : Int)).toNat) ⟨(fun k_ : Nat => List.getD [.slice A L.length c, .slice B M.length c2, undef, undef, .bool false, .int .i64 0, .slice A L.length c, .int .i64 (L.length : Int), .slice B M.length c2, .int .i64 (M.length : Int), .bool false, undef, undef, undef, undef, undef, undef, undef, undef, undef, undef, undef, undef, undef, undef, undef] k_ undef), (0 : Int), congrArg Fr (by kernel_rfl), rfl, by omega, by omega, eqTo_zero, HS⟩ ?_
    clear HS
    intro kq3 a' W4 hrel
    obtain ⟨J2, k, rfl, hk, k0, k1, he, HS⟩ := hrel
    refine wp_seq ?_
    refine wp_seq ?_
    refine wp_region_lit ?_
    refine ql (.int .i64 k) (by kernel_rfl) (by kernel_rfl) ?_
    refine ql (.slice A L.length c) (by kernel_rfl) (by kernel_rfl) ?_
    refine ql (.int .i64 (L.length : Int)) (by kernel_rfl) (by kernel_rfl) ?_
    by_cases hc5 : k < (L.length : Int)
    · skip
      refine ql (.bool true) (by kernel_rfl) (R_bool (p := k < (L.length : Int)) (by kernel_rfl) (hc5)) ?_
      refine wpList_nil ?_
      refine x_then ?_
      refine wp_cond_true (by kernel_rfl) ?_
      refine wp_skip ?_
      refine x_then ?_
      refine wp_seq ?_
      refine wp_block ?_
      refine wp_seq ?_
      refine rg_still HS 8 (by kernel_rfl) (by kernel_rfl) ?_
      intro W6 H_ HK_
      simp only [List.take_succ_cons, List.take_zero, List.drop_succ_cons, List.drop_zero]
      replace HS : St W (owns []) W6 [] := H_
      clear H_
      clear HK_
      refine qs (.slice A L.length c) (by kernel_rfl) (by kernel_rfl) ?_
      refine qs (.int .i64 k) (by kernel_rfl) (by kernel_rfl) ?_
      obtain ⟨ad7, rfl⟩ := Rd.isSome_ hr (by rw [ci_len]; omega)
      refine qs (.pointer (some (ad7.add k.toNat))) (by kernel_rfl) (R_indexA1 (k := .i64) (p := ad7) (n := L.length) (c := c) (i := k) (by kernel_rfl) (by kernel_rfl) Try.underlying22 (by kernel_rfl) (by omega) (by omega)) ?_
      refine qs (.int .i64 (rdI L k)) (by kernel_rfl) (R_load (p := ad7.add k.toNat) (by kernel_rfl) (by kernel_rfl) (by kernel_rfl) (HS.old0 (hr.at_ (ci_rd (i := k) (by omega) (by omega))))) ?_
      refine qs (.slice B M.length c2) (by kernel_rfl) (by kernel_rfl) ?_
      refine qs (.int .i64 k) (by kernel_rfl) (by kernel_rfl) ?_
      obtain ⟨ad8, rfl⟩ := Rd.isSome_ hs (by rw [ci_len]; omega)
      refine qs (.pointer (some (ad8.add k.toNat))) (by kernel_rfl) (R_indexA1 (k := .i64) (p := ad8) (n := M.length) (c := c2) (i := k) (by kernel_rfl) (by kernel_rfl) Try.underlying22 (by kernel_rfl) (by omega) (by omega)) ?_
      refine qs (.int .i64 (rdI M k)) (by kernel_rfl) (R_load (p := ad8.add k.toNat) (by kernel_rfl) (by kernel_rfl) (by kernel_rfl) (HS.old0 (hs.at_ (ci_rd (i := k) (by omega) (by omega))))) ?_
      refine wpStill_nil ?_
      by_cases hc9 : (rdI L k) = (rdI M k)
      · skip
        refine ql (.bool false) (by kernel_rfl) (R_beq (b := (rdI L k != rdI M k)) (by kernel_rfl) (bne_f (hc9))) ?_
        refine wpList_nil ?_
        refine x_then ?_
        refine wp_cond_false (by kernel_rfl) ?_
        refine wp_skip ?_
        refine x_inb ?_
        refine x_then ?_
        refine wp_region_lit ?_
        refine ql (.int .i64 k) (by kernel_rfl) (by kernel_rfl) ?_
        refine ql (.int .i64 (k + 1)) (by kernel_rfl) (R_int (by kernel_rfl) (w64 (by omega))) ?_
        refine ql (.int .i64 (k + 1)) (by kernel_rfl) (by kernel_rfl) ?_
        refine wpList_nil ?_
        refine x_then ?_
        exact ⟨L.length - (k + 1).toNat, by omega, (fun k_ : Nat => List.getD [.slice (some ad7) L.length c, .slice (some ad8) M.length c2, undef, undef, (J2 4), .int .i64 (k + 1), .slice (some ad7) L.length c, .int .i64 (L.length : Int), .slice (some ad8) M.length c2, .int .i64 (M.length : Int), .bool false, .int .i64 k, .slice (some ad7) L.length c, .int .i64 (L.length : Int), .bool true, .int .i64 k, .int .i64 (k + 1), .slice (some ad7) L.length c, .int .i64 k, .pointer (some (ad7.add k.toNat)), .int .i64 (rdI L k), .slice (some ad8) M.length c2, .int .i64 k, .pointer (some (ad8.add k.toNat)), .int .i64 (rdI M k), .bool false] k_ undef), k + 1, congrArg Fr (by kernel_rfl), rfl, by omega, by omega, eqTo_step he (by first | assumption | omega), HS⟩
      · skip
        refine ql (.bool true) (by kernel_rfl) (R_beq (b := (rdI L k != rdI M k)) (by kernel_rfl) (bne_t (hc9))) ?_
        refine wpList_nil ?_
        refine x_then ?_
        refine wp_cond_true (by kernel_rfl) ?_
        refine wp_seq ?_
        refine wp_region_lit ?_
        refine ql (.bool false) (by kernel_rfl) (by kernel_rfl) ?_
        refine wpList_nil ?_
        refine x_then ?_
        refine wp_ret ?_
        refine x_inbR ?_
        refine x_thenR ?_
        refine x_thenR ?_
        refine x_inbR ?_
        refine x_thenR ?_
        refine ret_ (.bool false) (by kernel_rfl) ?_
        exact ⟨by rw [decide_eq_false (by intro h_; subst h_; omega)], HS⟩
    · skip
      refine ql (.bool false) (by kernel_rfl) (R_nbool (p := k < (L.length : Int)) (by kernel_rfl) (hc5)) ?_
      refine wpList_nil ?_
      refine x_then ?_
      refine wp_cond_false (by kernel_rfl) ?_
      refine wp_exit ?_
      refine x_thenE ?_
      refine x_thenE ?_
      refine x_hit ?_
      refine x_then ?_
      refine wp_seq ?_
      refine wp_region_lit ?_
      refine ql (.bool true) (by kernel_rfl) (by kernel_rfl) ?_
      refine wpList_nil ?_
      refine x_then ?_
      refine wp_ret ?_
      refine ret_ (.bool true) (by kernel_rfl) ?_
      have hk9 : k = L.length := by omega
      rw [hk9] at he
      have hq := eqTo_all (by omega) he
      exact ⟨by rw [decide_eq_true hq], HS⟩
  · skip
    refine ql (.bool true) (by kernel_rfl) (R_beq (b := ((L.length : Int) != (M.length : Int))) (by kernel_rfl) (bne_t (hc1))) ?_
    refine wpList_nil ?_
    refine x_then ?_
    refine wp_cond_true (by kernel_rfl) ?_
    refine wp_seq ?_
    refine wp_region_lit ?_
    refine ql (.bool false) (by kernel_rfl) (by kernel_rfl) ?_
    refine wpList_nil ?_
    refine x_then ?_
    refine wp_ret ?_
    refine x_thenR ?_
    refine ret_ (.bool false) (by kernel_rfl) ?_
    exact ⟨by rw [decide_eq_false (by intro h_; subst h_; omega)], HS⟩

open Go.Shelf

open Go.Shelf

theorem dhasd (g c : Nat) (A : Option Addr) (ws : List Int) (n : Int) (L : List Int) (i : Int) (W : World) (hz0 : W.cell? ⟨g, 0, none⟩ = some (.slice A ws.length c)) (hz1 : W.cell? ⟨g, 1, none⟩ = some (.int .i64 n)) (hr : Rd W A (ci .u64 ws)) (hR : Rep ws n L) (hn : n ≤ 1048576) : Calls Try.prog 73 #[.pointer (some ⟨g, 0, none⟩), .int .i64 i] W fun e W' => e = .returned (.bool (decide (i ∈ L))) ∧ St W (owns []) W' [] := by
  by_cases hi : i ∈ L
  · rw [decide_eq_true hi]; exact dhas_t g c A ws n L i W hz0 hz1 hr hR hn hi
  · rw [decide_eq_false hi]; exact dhas_n g c A ws n L i W hz0 hz1 hr hR hn hi

set_option maxRecDepth 100000 in
set_option maxHeartbeats 1000000 in
theorem mrows (g cr : Nat) (R : Option Addr) (cols : Int) (rs : List Rw) (Ls : List (List Int)) (W : World) (hm : Mr W g R cr cols rs) (hR : MRep rs cols Ls) (hc : cols ≤ 65536) (hl : rs.length ≤ 65536) : Calls Try.prog 80 #[.pointer (some ⟨g, 0, none⟩)] W fun e W' => e = .returned (.int .i64 (rs.length : Int)) ∧ St W (owns []) W' [] := by
  have HS : St W (owns []) W [] := St.start W _
  refine calls_enter [.pointer (some ⟨g, 0, none⟩), undef, undef, undef, undef, undef, undef, undef, undef, undef] Try.func80 rfl (by kernel_rfl) ?_
  refine wp_seq ?_
  refine wp_region_lit ?_
  refine ql (.int .i64 0) (by kernel_rfl) (by kernel_rfl) ?_
  refine wpList_nil ?_
  refine x_then ?_
  refine wp_seq ?_
  refine wp_seq ?_
  refine wp_region_lit ?_
  refine ql (.pointer (some ⟨g, 0, none⟩)) (by kernel_rfl) (by kernel_rfl) ?_
  refine ql (.bool false) (by kernel_rfl) (by kernel_rfl) ?_
  refine wpList_nil ?_
  refine x_then ?_
  refine wp_cond_false (by kernel_rfl) ?_
  refine wp_skip ?_
  refine x_then ?_
  refine wp_seq ?_
  refine wp_region_lit ?_
  refine ql (.pointer (some ⟨g, 0, none⟩)) (by kernel_rfl) (by kernel_rfl) ?_
  refine ql (.pointer (some ⟨g, 0, none⟩)) (by kernel_rfl) (by kernel_rfl) ?_
  refine ql (.pointer (some ⟨g, 0, none⟩)) (by kernel_rfl) (by kernel_rfl) ?_
  refine ql (.slice R rs.length cr) (by kernel_rfl) (R_load (p := ⟨g, 0, none⟩) (by kernel_rfl) (by kernel_rfl) (by kernel_rfl) (HS.old0 hm.h0)) ?_
  refine ql (.int .i64 (rs.length : Int)) (by kernel_rfl) (by kernel_rfl) ?_
  refine ql (.int .i64 (rs.length : Int)) (by kernel_rfl) (by kernel_rfl) ?_
  refine wpList_nil ?_
  refine x_then ?_
  refine wp_ret ?_
  refine ret_ (.int .i64 (rs.length : Int)) (by kernel_rfl) ?_
  exact ⟨rfl, HS⟩

set_option maxRecDepth 100000 in
set_option maxHeartbeats 1000000 in
theorem mcols (g cr : Nat) (R : Option Addr) (cols : Int) (rs : List Rw) (Ls : List (List Int)) (W : World) (hm : Mr W g R cr cols rs) (hR : MRep rs cols Ls) (hc : cols ≤ 65536) (hl : rs.length ≤ 65536) : Calls Try.prog 78 #[.pointer (some ⟨g, 0, none⟩)] W fun e W' => e = .returned (.int .i64 cols) ∧ St W (owns []) W' [] := by
  have HS : St W (owns []) W [] := St.start W _
  refine calls_enter [.pointer (some ⟨g, 0, none⟩), undef, undef, undef, undef, undef, undef, undef, undef] Try.func78 rfl (by kernel_rfl) ?_
  refine wp_seq ?_
  refine wp_region_lit ?_
  refine ql (.int .i64 0) (by kernel_rfl) (by kernel_rfl) ?_
  refine wpList_nil ?_
  refine x_then ?_
  refine wp_seq ?_
  refine wp_seq ?_
  refine wp_region_lit ?_
  refine ql (.pointer (some ⟨g, 0, none⟩)) (by kernel_rfl) (by kernel_rfl) ?_
  refine ql (.bool false) (by kernel_rfl) (by kernel_rfl) ?_
  refine wpList_nil ?_
  refine x_then ?_
  refine wp_cond_false (by kernel_rfl) ?_
  refine wp_skip ?_
  refine x_then ?_
  refine wp_seq ?_
  refine wp_region_lit ?_
  refine ql (.pointer (some ⟨g, 0, none⟩)) (by kernel_rfl) (by kernel_rfl) ?_
  refine ql (.pointer (some ⟨g, 0, none⟩)) (by kernel_rfl) (by kernel_rfl) ?_
  refine ql (.pointer (some ⟨g, 1, none⟩)) (by kernel_rfl) (by kernel_rfl) ?_
  refine ql (.int .i64 cols) (by kernel_rfl) (R_load (p := ⟨g, 1, none⟩) (by kernel_rfl) (by kernel_rfl) (by kernel_rfl) (HS.old0 hm.h1)) ?_
  refine ql (.int .i64 cols) (by kernel_rfl) (by kernel_rfl) ?_
  refine wpList_nil ?_
  refine x_then ?_
  refine wp_ret ?_
  refine ret_ (.int .i64 cols) (by kernel_rfl) ?_
  exact ⟨rfl, HS⟩

set_option maxRecDepth 100000 in
set_option maxHeartbeats 1000000 in
theorem mrow_o (g cr : Nat) (R : Option Addr) (cols : Int) (rs : List Rw) (Ls : List (List Int)) (r : Int) (W : World) (hm : Mr W g R cr cols rs) (hR : MRep rs cols Ls) (hc : cols ≤ 65536) (hl : rs.length ≤ 65536) (ho : r < 0 ∨ (rs.length : Int) ≤ r) : Calls Try.prog 83 #[.pointer (some ⟨g, 0, none⟩), .int .i64 r] W fun e W' => e = .returned (.pointer none) ∧ St W (owns []) W' [] := by
  have HS : St W (owns []) W [] := St.start W _
  refine calls_enter [.pointer (some ⟨g, 0, none⟩), .int .i64 r, undef, undef, undef, undef, undef, undef, undef, undef, undef, undef, undef, undef, undef, undef, undef, undef, undef, undef] Try.func83 rfl (by kernel_rfl) ?_
  refine wp_seq ?_
  refine wp_region_lit ?_
  refine ql (.pointer none) (by kernel_rfl) (by kernel_rfl) ?_
  refine wpList_nil ?_
  refine x_then ?_
  refine wp_seq ?_
  refine wp_seq ?_
  refine wp_region_lit ?_
  refine ql (.int .i64 r) (by kernel_rfl) (by kernel_rfl) ?_
  by_cases hc1 : r < (0 : Int)
  · skip
    refine ql (.bool true) (by kernel_rfl) (R_bool (p := r < (0 : Int)) (by kernel_rfl) (hc1)) ?_
    refine ql (.bool true) (by kernel_rfl) (by kernel_rfl) ?_
    refine qln (by kernel_rfl) ?_
    refine qln (by kernel_rfl) ?_
    refine qln (by kernel_rfl) ?_
    refine qln (by kernel_rfl) ?_
    refine ql (.bool true) (by kernel_rfl) (by kernel_rfl) ?_
    refine wpList_nil ?_
    refine x_then ?_
    refine wp_cond_true (by kernel_rfl) ?_
    refine wp_seq ?_
    refine wp_region_lit ?_
    refine ql (.pointer none) (by kernel_rfl) (by kernel_rfl) ?_
    refine wpList_nil ?_
    refine x_then ?_
    refine wp_ret ?_
    refine x_thenR ?_
    refine ret_ (.pointer none) (by kernel_rfl) ?_
    exact ⟨rfl, HS⟩
  · skip
    refine ql (.bool false) (by kernel_rfl) (R_nbool (p := r < (0 : Int)) (by kernel_rfl) (hc1)) ?_
    refine ql (.bool false) (by kernel_rfl) (by kernel_rfl) ?_
    refine ql (.int .i64 r) (by kernel_rfl) (by kernel_rfl) ?_
    refine ql (.pointer (some ⟨g, 0, none⟩)) (by kernel_rfl) (by kernel_rfl) ?_
    refine qc (f := 80) (args := #[.pointer (some ⟨g, 0, none⟩)]) (by kernel_rfl) (R_call #[.pointer (some ⟨g, 0, none⟩)] Try.func80 (by kernel_rfl) (by kernel_rfl) (by kernel_rfl)) ?_
    refine (mrows g cr R cols rs Ls _ (hm.old0 HS) hR hc hl).mono ?_
    rintro e W2 ⟨rfl, H_⟩
    refine ⟨_, rfl, ?_⟩
    replace HS : St W (owns []) W2 [] := HS.join (F := []) (G := []) H_
    clear H_
    by_cases hc3 : r ≥ (rs.length : Int)
    · skip
      refine ql (.bool true) (by kernel_rfl) (R_bool (p := r ≥ (rs.length : Int)) (by kernel_rfl) (hc3)) ?_
      refine ql (.bool true) (by kernel_rfl) (by kernel_rfl) ?_
      refine wpList_nil ?_
      refine x_then ?_
      refine wp_cond_true (by kernel_rfl) ?_
      refine wp_seq ?_
      refine wp_region_lit ?_
      refine ql (.pointer none) (by kernel_rfl) (by kernel_rfl) ?_
      refine wpList_nil ?_
      refine x_then ?_
      refine wp_ret ?_
      refine x_thenR ?_
      refine ret_ (.pointer none) (by kernel_rfl) ?_
      exact ⟨rfl, HS⟩
    · skip
      refine ql (.bool false) (by kernel_rfl) (R_nbool (p := r ≥ (rs.length : Int)) (by kernel_rfl) (hc3)) ?_
      refine ql (.bool false) (by kernel_rfl) (by kernel_rfl) ?_
      refine wpList_nil ?_
      refine x_then ?_
      refine wp_cond_false (by kernel_rfl) ?_
      refine wp_skip ?_
      refine x_then ?_
      refine wp_seq ?_
      refine wp_region_lit ?_
      refine ql (.pointer (some ⟨g, 0, none⟩)) (by kernel_rfl) (by kernel_rfl) ?_
      refine ql (.pointer (some ⟨g, 0, none⟩)) (by kernel_rfl) (by kernel_rfl) ?_
      refine ql (.pointer (some ⟨g, 0, none⟩)) (by kernel_rfl) (by kernel_rfl) ?_
      refine ql (.slice R rs.length cr) (by kernel_rfl) (R_load (p := ⟨g, 0, none⟩) (by kernel_rfl) (by kernel_rfl) (by kernel_rfl) (HS.old0 hm.h0)) ?_
      refine ql (.int .i64 r) (by kernel_rfl) (by kernel_rfl) ?_
      exfalso; omega

set_option maxRecDepth 100000 in
set_option maxHeartbeats 1000000 in
theorem mrow_e (g cr : Nat) (R : Option Addr) (cols : Int) (rs : List Rw) (Ls : List (List Int)) (r : Int) (W : World) (hm : Mr W g R cr cols rs) (hR : MRep rs cols Ls) (hc : cols ≤ 65536) (hl : rs.length ≤ 65536) (h0 : 0 ≤ r) (h1 : r < rs.length) (hx : gx rs r = none) : Calls Try.prog 83 #[.pointer (some ⟨g, 0, none⟩), .int .i64 r] W fun e W' => e = .returned (.pointer none) ∧ St W (owns []) W' [] := by
  have HS : St W (owns []) W [] := St.start W _
  refine calls_enter [.pointer (some ⟨g, 0, none⟩), .int .i64 r, undef, undef, undef, undef, undef, undef, undef, undef, undef, undef, undef, undef, undef, undef, undef, undef, undef, undef] Try.func83 rfl (by kernel_rfl) ?_
  refine wp_seq ?_
  refine wp_region_lit ?_
  refine ql (.pointer none) (by kernel_rfl) (by kernel_rfl) ?_
  refine wpList_nil ?_
  refine x_then ?_
  refine wp_seq ?_
  refine wp_seq ?_
  refine wp_region_lit ?_
  refine ql (.int .i64 r) (by kernel_rfl) (by kernel_rfl) ?_
  refine ql (.bool false) (by kernel_rfl) (R_nbool (p := r < (0 : Int)) (by kernel_rfl) (by omega)) ?_
  refine ql (.bool false) (by kernel_rfl) (by kernel_rfl) ?_
  refine ql (.int .i64 r) (by kernel_rfl) (by kernel_rfl) ?_
  refine ql (.pointer (some ⟨g, 0, none⟩)) (by kernel_rfl) (by kernel_rfl) ?_
  refine qc (f := 80) (args := #[.pointer (some ⟨g, 0, none⟩)]) (by kernel_rfl) (R_call #[.pointer (some ⟨g, 0, none⟩)] Try.func80 (by kernel_rfl) (by kernel_rfl) (by kernel_rfl)) ?_
  refine (mrows g cr R cols rs Ls _ (hm.old0 HS) hR hc hl).mono ?_
  rintro e W1 ⟨rfl, H_⟩
  refine ⟨_, rfl, ?_⟩
  replace HS : St W (owns []) W1 [] := HS.join (F := []) (G := []) H_
  clear H_
  refine ql (.bool false) (by kernel_rfl) (R_nbool (p := r ≥ (rs.length : Int)) (by kernel_rfl) (by omega)) ?_
  refine ql (.bool false) (by kernel_rfl) (by kernel_rfl) ?_
  refine wpList_nil ?_
  refine x_then ?_
  refine wp_cond_false (by kernel_rfl) ?_
  refine wp_skip ?_
  refine x_then ?_
  refine wp_seq ?_
  refine wp_region_lit ?_
  refine ql (.pointer (some ⟨g, 0, none⟩)) (by kernel_rfl) (by kernel_rfl) ?_
  refine ql (.pointer (some ⟨g, 0, none⟩)) (by kernel_rfl) (by kernel_rfl) ?_
  refine ql (.pointer (some ⟨g, 0, none⟩)) (by kernel_rfl) (by kernel_rfl) ?_
  refine ql (.slice R rs.length cr) (by kernel_rfl) (R_load (p := ⟨g, 0, none⟩) (by kernel_rfl) (by kernel_rfl) (by kernel_rfl) (HS.old0 hm.h0)) ?_
  refine ql (.int .i64 r) (by kernel_rfl) (by kernel_rfl) ?_
  obtain ⟨ad2, rfl⟩ := Rd.isSome_ hm.hr (by rw [cf_len (z := 1) (fun _ => rfl)]; omega)
  refine ql (.pointer (some (ad2.add r.toNat))) (by kernel_rfl) (R_indexA1 (k := .i64) (p := ad2) (n := rs.length) (c := cr) (i := r) (by kernel_rfl) (by kernel_rfl) Try.underlying103 (by kernel_rfl) (by omega) (by omega)) ?_
  refine ql (.pointer none) (by kernel_rfl) (R_load (p := ad2.add r.toNat) (by kernel_rfl) (by kernel_rfl) (by kernel_rfl) (HS.old0 (Rd.elemC (f := cpt) (fun _ => rfl) hm.hr (gx_eq (by omega) (by omega)) (by rw [hx]; rfl)))) ?_
  refine ql (.pointer none) (by kernel_rfl) (by kernel_rfl) ?_
  refine wpList_nil ?_
  refine x_then ?_
  refine wp_ret ?_
  refine ret_ (.pointer none) (by kernel_rfl) ?_
  exact ⟨rfl, HS⟩

set_option maxRecDepth 100000 in
set_option maxHeartbeats 1000000 in
theorem mrow_p (g cr : Nat) (R : Option Addr) (cols : Int) (rs : List Rw) (Ls : List (List Int)) (r : Int) (W : World) (hm : Mr W g R cr cols rs) (hR : MRep rs cols Ls) (hc : cols ≤ 65536) (hl : rs.length ≤ 65536) (g1 c1 : Nat) (A1 : Option Addr) (ws1 : List Int) (h0 : 0 ≤ r) (h1 : r < rs.length) (hx : gx rs r = some (g1, A1, c1, ws1)) : Calls Try.prog 83 #[.pointer (some ⟨g, 0, none⟩), .int .i64 r] W fun e W' => e = .returned (.pointer (some ⟨g1, 0, none⟩)) ∧ St W (owns []) W' [] := by
  have HS : St W (owns []) W [] := St.start W _
  refine calls_enter [.pointer (some ⟨g, 0, none⟩), .int .i64 r, undef, undef, undef, undef, undef, undef, undef, undef, undef, undef, undef, undef, undef, undef, undef, undef, undef, undef] Try.func83 rfl (by kernel_rfl) ?_
  refine wp_seq ?_
  refine wp_region_lit ?_
  refine ql (.pointer none) (by kernel_rfl) (by kernel_rfl) ?_
  refine wpList_nil ?_
  refine x_then ?_
  refine wp_seq ?_
  refine wp_seq ?_
  refine wp_region_lit ?_
  refine ql (.int .i64 r) (by kernel_rfl) (by kernel_rfl) ?_
  refine ql (.bool false) (by kernel_rfl) (R_nbool (p := r < (0 : Int)) (by kernel_rfl) (by omega)) ?_
  refine ql (.bool false) (by kernel_rfl) (by kernel_rfl) ?_
  refine ql (.int .i64 r) (by kernel_rfl) (by kernel_rfl) ?_
  refine ql (.pointer (some ⟨g, 0, none⟩)) (by kernel_rfl) (by kernel_rfl) ?_
  refine qc (f := 80) (args := #[.pointer (some ⟨g, 0, none⟩)]) (by kernel_rfl) (R_call #[.pointer (some ⟨g, 0, none⟩)] Try.func80 (by kernel_rfl) (by kernel_rfl) (by kernel_rfl)) ?_
  refine (mrows g cr R cols rs Ls _ (hm.old0 HS) hR hc hl).mono ?_
  rintro e W1 ⟨rfl, H_⟩
  refine ⟨_, rfl, ?_⟩
  replace HS : St W (owns []) W1 [] := HS.join (F := []) (G := []) H_
  clear H_
  refine ql (.bool false) (by kernel_rfl) (R_nbool (p := r ≥ (rs.length : Int)) (by kernel_rfl) (by omega)) ?_
  refine ql (.bool false) (by kernel_rfl) (by kernel_rfl) ?_
  refine wpList_nil ?_
  refine x_then ?_
  refine wp_cond_false (by kernel_rfl) ?_
  refine wp_skip ?_
  refine x_then ?_
  refine wp_seq ?_
  refine wp_region_lit ?_
  refine ql (.pointer (some ⟨g, 0, none⟩)) (by kernel_rfl) (by kernel_rfl) ?_
  refine ql (.pointer (some ⟨g, 0, none⟩)) (by kernel_rfl) (by kernel_rfl) ?_
  refine ql (.pointer (some ⟨g, 0, none⟩)) (by kernel_rfl) (by kernel_rfl) ?_
  refine ql (.slice R rs.length cr) (by kernel_rfl) (R_load (p := ⟨g, 0, none⟩) (by kernel_rfl) (by kernel_rfl) (by kernel_rfl) (HS.old0 hm.h0)) ?_
  refine ql (.int .i64 r) (by kernel_rfl) (by kernel_rfl) ?_
  obtain ⟨ad2, rfl⟩ := Rd.isSome_ hm.hr (by rw [cf_len (z := 1) (fun _ => rfl)]; omega)
  refine ql (.pointer (some (ad2.add r.toNat))) (by kernel_rfl) (R_indexA1 (k := .i64) (p := ad2) (n := rs.length) (c := cr) (i := r) (by kernel_rfl) (by kernel_rfl) Try.underlying103 (by kernel_rfl) (by omega) (by omega)) ?_
  refine ql (.pointer (some ⟨g1, 0, none⟩)) (by kernel_rfl) (R_load (p := ad2.add r.toNat) (by kernel_rfl) (by kernel_rfl) (by kernel_rfl) (HS.old0 (Rd.elemC (f := cpt) (fun _ => rfl) hm.hr (gx_eq (by omega) (by omega)) (by rw [hx]; rfl)))) ?_
  refine ql (.pointer (some ⟨g1, 0, none⟩)) (by kernel_rfl) (by kernel_rfl) ?_
  refine wpList_nil ?_
  refine x_then ?_
  refine wp_ret ?_
  refine ret_ (.pointer (some ⟨g1, 0, none⟩)) (by kernel_rfl) ?_
  exact ⟨rfl, HS⟩

theorem mrow_n (g cr : Nat) (R : Option Addr) (cols : Int) (rs : List Rw) (Ls : List (List Int)) (r : Int) (W : World) (hm : Mr W g R cr cols rs) (hR : MRep rs cols Ls) (hc : cols ≤ 65536) (hl : rs.length ≤ 65536) (hx : mget rs r = none) : Calls Try.prog 83 #[.pointer (some ⟨g, 0, none⟩), .int .i64 r] W fun e W' => e = .returned (.pointer none) ∧ St W (owns []) W' [] := by
  by_cases h : 0 ≤ r ∧ r < rs.length
  · exact mrow_e g cr R cols rs Ls r W hm hR hc hl h.1 h.2 (by rw [mget_gx h.1 h.2]; exact hx)
  · exact mrow_o g cr R cols rs Ls r W hm hR hc hl (by omega)
theorem mrow_s (g cr : Nat) (R : Option Addr) (cols : Int) (rs : List Rw) (Ls : List (List Int)) (r : Int) (g1 c1 : Nat) (A1 : Option Addr) (ws1 : List Int) (W : World) (hm : Mr W g R cr cols rs) (hR : MRep rs cols Ls) (hc : cols ≤ 65536) (hl : rs.length ≤ 65536) (hx : mget rs r = some (g1, A1, c1, ws1)) : Calls Try.prog 83 #[.pointer (some ⟨g, 0, none⟩), .int .i64 r] W fun e W' => e = .returned (.pointer (some ⟨g1, 0, none⟩)) ∧ St W (owns []) W' [] := by
  have h := mget_some hx
  exact mrow_p g cr R cols rs Ls r W hm hR hc hl g1 c1 A1 ws1 h.1 h.2.1 (by rw [mget_gx h.1 h.2.1]; exact hx)

set_option maxRecDepth 100000 in
set_option maxHeartbeats 1000000 in
theorem mhas (g cr : Nat) (R : Option Addr) (cols : Int) (rs : List Rw) (Ls : List (List Int)) (r c : Int) (W : World) (hm : Mr W g R cr cols rs) (hR : MRep rs cols Ls) (hc : cols ≤ 65536) (hl : rs.length ≤ 65536) : Calls Try.prog 59 #[.pointer (some ⟨g, 0, none⟩), .int .i64 r, .int .i64 c] W fun e W' => e = .returned (.bool (decide (c ∈ rowL Ls r))) ∧ St W (owns []) W' [] := by
  have HS : St W (owns []) W [] := St.start W _
  refine calls_enter [.pointer (some ⟨g, 0, none⟩), .int .i64 r, .int .i64 c, undef, undef, undef, undef, undef, undef, undef, undef, undef] Try.func59 rfl (by kernel_rfl) ?_
  refine wp_seq ?_
  refine wp_region_lit ?_
  refine ql (.bool false) (by kernel_rfl) (by kernel_rfl) ?_
  refine wpList_nil ?_
  refine x_then ?_
  refine wp_seq ?_
  refine wp_region_lit ?_
  refine ql (.pointer (some ⟨g, 0, none⟩)) (by kernel_rfl) (by kernel_rfl) ?_
  refine ql (.int .i64 r) (by kernel_rfl) (by kernel_rfl) ?_
  refine qc (f := 83) (args := #[.pointer (some ⟨g, 0, none⟩), .int .i64 r]) (by kernel_rfl) (R_call #[.pointer (some ⟨g, 0, none⟩), .int .i64 r] Try.func83 (by kernel_rfl) (by kernel_rfl) (by kernel_rfl)) ?_
  rcases hx : mget rs r with _ | ⟨g1, A1, c1, ws1⟩
  · skip
    refine (mrow_n g cr R cols rs Ls r _ (hm.old0 HS) hR hc hl hx).mono ?_
    rintro e W1 ⟨rfl, H_⟩
    refine ⟨_, rfl, ?_⟩
    replace HS : St W (owns []) W1 [] := HS.join (F := []) (G := []) H_
    clear H_
    refine ql (.int .i64 c) (by kernel_rfl) (by kernel_rfl) ?_
    refine qc (f := 73) (args := #[.pointer none, .int .i64 c]) (by kernel_rfl) (R_call #[.pointer none, .int .i64 c] Try.func73 (by kernel_rfl) (by kernel_rfl) (by kernel_rfl)) ?_
    refine (dhas_nil _ _).mono ?_
    rintro e W2 ⟨rfl, H_⟩
    refine ⟨_, rfl, ?_⟩
    replace HS : St W (owns []) W2 [] := HS.join (F := []) (G := []) H_
    clear H_
    refine ql (.bool false) (by kernel_rfl) (by kernel_rfl) ?_
    refine wpList_nil ?_
    refine x_then ?_
    refine wp_ret ?_
    refine ret_ (.bool false) (by kernel_rfl) ?_
    exact ⟨by rw [hR.none_ hx]; simp, HS⟩
  · skip
    have hs1 := hm.hs (g1, A1, c1, ws1) (mget_mem hx)
    have hR1 : Rep ws1 cols (rowL Ls r) := hR.some_ hx
    refine (mrow_s g cr R cols rs Ls r g1 c1 A1 ws1 _ (hm.old0 HS) hR hc hl hx).mono ?_
    rintro e W3 ⟨rfl, H_⟩
    refine ⟨_, rfl, ?_⟩
    replace HS : St W (owns []) W3 [] := HS.join (F := []) (G := []) H_
    clear H_
    refine ql (.int .i64 c) (by kernel_rfl) (by kernel_rfl) ?_
    refine qc (f := 73) (args := #[.pointer (some ⟨g1, 0, none⟩), .int .i64 c]) (by kernel_rfl) (R_call #[.pointer (some ⟨g1, 0, none⟩), .int .i64 c] Try.func73 (by kernel_rfl) (by kernel_rfl) (by kernel_rfl)) ?_
    refine (dhasd g1 c1 A1 ws1 cols (rowL Ls r) c _ (HS.old0 hs1.1) (HS.old0 hs1.2.1) (hs1.2.2.old0 HS) hR1 (by omega)).mono ?_
    rintro e W4 ⟨rfl, H_⟩
    refine ⟨_, rfl, ?_⟩
    replace HS : St W (owns []) W4 [] := HS.join (F := []) (G := []) H_
    clear H_
    refine ql (.bool (decide (c ∈ rowL Ls r))) (by kernel_rfl) (by kernel_rfl) ?_
    refine wpList_nil ?_
    refine x_then ?_
    refine wp_ret ?_
    refine ret_ (.bool (decide (c ∈ rowL Ls r))) (by kernel_rfl) ?_
    exact ⟨rfl, HS⟩

set_option maxRecDepth 100000 in
set_option maxHeartbeats 1000000 in
theorem mcount (g cr : Nat) (R : Option Addr) (cols : Int) (rs : List Rw) (Ls : List (List Int)) (W : World) (hm : Mr W g R cr cols rs) (hR : MRep rs cols Ls) (hc : cols ≤ 65536) (hl : rs.length ≤ 65536) : Calls Try.prog 81 #[.pointer (some ⟨g, 0, none⟩)] W fun e W' => e = .returned (.int .i64 (cntL Ls : Int)) ∧ St W (owns []) W' [] := by
  have HS : St W (owns []) W [] := St.start W _
  have hlen := hR.len
  refine calls_enter [.pointer (some ⟨g, 0, none⟩), undef, undef, undef, undef, undef, undef, undef, undef, undef, undef, undef, undef, undef, undef, undef, undef, undef] Try.func81 rfl (by kernel_rfl) ?_
  refine wp_seq ?_
  refine wp_region_lit ?_
  refine ql (.int .i64 0) (by kernel_rfl) (by kernel_rfl) ?_
  refine wpList_nil ?_
  refine x_then ?_
  refine wp_seq ?_
  refine wp_region_lit ?_
  refine ql (.int .i64 0) (by kernel_rfl) (by kernel_rfl) ?_
  refine wpList_nil ?_
  refine x_then ?_
  refine wp_seq ?_
  refine wp_seq ?_
  refine wp_region_lit ?_
  refine ql (.pointer (some ⟨g, 0, none⟩)) (by kernel_rfl) (by kernel_rfl) ?_
  refine qc (f := 80) (args := #[.pointer (some ⟨g, 0, none⟩)]) (by kernel_rfl) (R_call #[.pointer (some ⟨g, 0, none⟩)] Try.func80 (by kernel_rfl) (by kernel_rfl) (by kernel_rfl)) ?_
  refine (mrows g cr R cols rs Ls _ (hm.old0 HS) hR hc hl).mono ?_
  rintro e W1 ⟨rfl, H_⟩
  refine ⟨_, rfl, ?_⟩
  replace HS : St W (owns []) W1 [] := HS.join (F := []) (G := []) H_
  clear H_
  refine ql (.int .i64 0) (by kernel_rfl) (by kernel_rfl) ?_
  refine wpList_nil ?_
  refine x_then ?_
  refine wp_block ?_
  refine wp_loop_ghost (fun kq a' w' => ∃ (J2 : Nat → Value) (k : Int) (n : Int) , a' = Fr [.pointer (some ⟨g, 0, none⟩), undef, .int .i64 0, .int .i64 n, (J2 4), .pointer (some ⟨g, 0, none⟩), .int .i64 (rs.length : Int), .int .i64 k, (J2 8), (J2 9), (J2 10), (J2 11), (J2 12), (J2 13), (J2 14), (J2 15), (J2 16), undef] ∧ kq = (rs.length - (k).toNat) ∧ (0 ≤ k) ∧ (k ≤ rs.length) ∧ (0 ≤ n) ∧ (n ≤ 65600 * k) ∧ (CntP Ls k n) ∧ St W (owns []) w' []) (rs.length - ((0 : Int)).toNat) ⟨(fun k_ : Nat => List.getD [.pointer (some ⟨g, 0, none⟩), undef, .int .i64 0, .int .i64 0, undef, .pointer (some ⟨g, 0, none⟩), .int .i64 (rs.length : Int), .int .i64 0, undef, undef, undef, undef, undef, undef, undef, undef, undef, undef] k_ undef), (0 : Int), (0 : Int), congrArg Fr (by kernel_rfl), rfl, by omega, by omega, by omega, by omega, cntP_start Ls, HS⟩ ?_
  clear HS
  intro kq3 a' W4 hrel
  obtain ⟨J2, k, n, rfl, hk, k0, k1, n0, n1, hP, HS⟩ := hrel
  refine wp_seq ?_
  refine wp_region_lit ?_
  by_cases hc5 : k < (rs.length : Int)
  · skip
    refine ql (.bool true) (by kernel_rfl) (R_bool (p := k < (rs.length : Int)) (by kernel_rfl) (hc5)) ?_
    refine wpList_nil ?_
    refine x_then ?_
    refine wp_seq ?_
    refine wp_cond_true (by kernel_rfl) ?_
    refine wp_skip ?_
    refine x_then ?_
    refine wp_seq ?_
    refine wp_block ?_
    refine wp_seq ?_
    refine wp_region_lit ?_
    refine ql (.int .i64 k) (by kernel_rfl) (by kernel_rfl) ?_
    refine ql (.int .i64 k) (by kernel_rfl) (by kernel_rfl) ?_
    refine wpList_nil ?_
    refine x_then ?_
    refine wp_region_lit ?_
    refine ql (.int .i64 n) (by kernel_rfl) (by kernel_rfl) ?_
    refine ql (.pointer (some ⟨g, 0, none⟩)) (by kernel_rfl) (by kernel_rfl) ?_
    refine ql (.int .i64 k) (by kernel_rfl) (by kernel_rfl) ?_
    refine qc (f := 83) (args := #[.pointer (some ⟨g, 0, none⟩), .int .i64 k]) (by kernel_rfl) (R_call #[.pointer (some ⟨g, 0, none⟩), .int .i64 k] Try.func83 (by kernel_rfl) (by kernel_rfl) (by kernel_rfl)) ?_
    rcases hx : mget rs k with _ | ⟨g1, A1, c1, ws1⟩
    · skip
      refine (mrow_n g cr R cols rs Ls k _ (hm.old0 HS) hR hc hl hx).mono ?_
      rintro e W6 ⟨rfl, H_⟩
      refine ⟨_, rfl, ?_⟩
      replace HS : St W (owns []) W6 [] := HS.join (F := []) (G := []) H_
      clear H_
      refine qc (f := 74) (args := #[.pointer none]) (by kernel_rfl) (R_call #[.pointer none] Try.func74 (by kernel_rfl) (by kernel_rfl) (by kernel_rfl)) ?_
      refine (dcount_nil _).mono ?_
      rintro e W7 ⟨rfl, H_⟩
      refine ⟨_, rfl, ?_⟩
      replace HS : St W (owns []) W7 [] := HS.join (F := []) (G := []) H_
      clear H_
      refine ql (.int .i64 (n + 0)) (by kernel_rfl) (R_int (by kernel_rfl) (w64 (by omega))) ?_
      refine ql (.int .i64 (n + 0)) (by kernel_rfl) (by kernel_rfl) ?_
      refine wpList_nil ?_
      refine x_inb ?_
      refine x_then ?_
      refine wp_region_lit ?_
      refine ql (.int .i64 (k + 1)) (by kernel_rfl) (R_int (by kernel_rfl) (w64 (by omega))) ?_
      refine ql (.int .i64 (k + 1)) (by kernel_rfl) (by kernel_rfl) ?_
      refine wpList_nil ?_
      refine x_then ?_
      exact ⟨rs.length - (k + 1).toNat, by omega, (fun k_ : Nat => List.getD [.pointer (some ⟨g, 0, none⟩), undef, .int .i64 0, .int .i64 (n + 0), .int .i64 k, .pointer (some ⟨g, 0, none⟩), .int .i64 (rs.length : Int), .int .i64 (k + 1), .bool true, .int .i64 k, .int .i64 n, .pointer (some ⟨g, 0, none⟩), .int .i64 k, .pointer none, .int .i64 0, .int .i64 (n + 0), .int .i64 (k + 1), undef] k_ undef), k + 1, n + 0, congrArg Fr (by kernel_rfl), rfl, by omega, by omega, by omega, by omega, (by have h_ := cntP_step hP k0 (by omega); simpa [hR.none_ hx] using h_), HS⟩
    · skip
      have hs1 := hm.hs (g1, A1, c1, ws1) (mget_mem hx)
      have hR1 : Rep ws1 cols (rowL Ls k) := hR.some_ hx
      refine (mrow_s g cr R cols rs Ls k g1 c1 A1 ws1 _ (hm.old0 HS) hR hc hl hx).mono ?_
      rintro e W8 ⟨rfl, H_⟩
      refine ⟨_, rfl, ?_⟩
      replace HS : St W (owns []) W8 [] := HS.join (F := []) (G := []) H_
      clear H_
      refine qc (f := 74) (args := #[.pointer (some ⟨g1, 0, none⟩)]) (by kernel_rfl) (R_call #[.pointer (some ⟨g1, 0, none⟩)] Try.func74 (by kernel_rfl) (by kernel_rfl) (by kernel_rfl)) ?_
      have hll := hR1.llen
      refine (dcount g1 c1 A1 ws1 cols (rowL Ls k) _ (HS.old0 hs1.1) (HS.old0 hs1.2.1) (hs1.2.2.old0 HS) hR1 (by omega)).mono ?_
      rintro e W9 ⟨rfl, H_⟩
      refine ⟨_, rfl, ?_⟩
      replace HS : St W (owns []) W9 [] := HS.join (F := []) (G := []) H_
      clear H_
      refine ql (.int .i64 (n + ((rowL Ls k).length : Int))) (by kernel_rfl) (R_int (by kernel_rfl) (w64 (by omega))) ?_
      refine ql (.int .i64 (n + ((rowL Ls k).length : Int))) (by kernel_rfl) (by kernel_rfl) ?_
      refine wpList_nil ?_
      refine x_inb ?_
      refine x_then ?_
      refine wp_region_lit ?_
      refine ql (.int .i64 (k + 1)) (by kernel_rfl) (R_int (by kernel_rfl) (w64 (by omega))) ?_
      refine ql (.int .i64 (k + 1)) (by kernel_rfl) (by kernel_rfl) ?_
      refine wpList_nil ?_
      refine x_then ?_
      exact ⟨rs.length - (k + 1).toNat, by omega, (fun k_ : Nat => List.getD [.pointer (some ⟨g, 0, none⟩), undef, .int .i64 0, .int .i64 (n + ((rowL Ls k).length : Int)), .int .i64 k, .pointer (some ⟨g, 0, none⟩), .int .i64 (rs.length : Int), .int .i64 (k + 1), .bool true, .int .i64 k, .int .i64 n, .pointer (some ⟨g, 0, none⟩), .int .i64 k, .pointer (some ⟨g1, 0, none⟩), .int .i64 ((rowL Ls k).length : Int), .int .i64 (n + ((rowL Ls k).length : Int)), .int .i64 (k + 1), undef] k_ undef), k + 1, n + ((rowL Ls k).length : Int), congrArg Fr (by kernel_rfl), rfl, by omega, by omega, by omega, by omega, (by have h_ := cntP_step hP k0 (by omega); simpa [hlen] using h_), HS⟩
  · skip
    refine ql (.bool false) (by kernel_rfl) (R_nbool (p := k < (rs.length : Int)) (by kernel_rfl) (hc5)) ?_
    refine wpList_nil ?_
    refine x_then ?_
    refine wp_seq ?_
    refine wp_cond_false (by kernel_rfl) ?_
    refine wp_exit ?_
    refine x_thenE ?_
    refine x_thenE ?_
    refine x_hit ?_
    refine x_then ?_
    refine wp_seq ?_
    refine wp_region_lit ?_
    refine ql (.int .i64 n) (by kernel_rfl) (by kernel_rfl) ?_
    refine ql (.int .i64 n) (by kernel_rfl) (by kernel_rfl) ?_
    refine wpList_nil ?_
    refine x_then ?_
    refine wp_ret ?_
    refine ret_ (.int .i64 n) (by kernel_rfl) ?_
    exact ⟨by rw [cntP_end hP (by omega)], HS⟩

open Go.Shelf

set_option maxRecDepth 100000 in
set_option maxHeartbeats 1000000 in
theorem mnew_ok (rows cols : Int) (W : World) (h0 : 0 ≤ rows) (h1 : 0 ≤ cols) (h2 : rows ≤ 65536) (h3 : cols ≤ 65536) : Calls Try.prog 56 #[.int .i64 rows, .int .i64 cols] W fun e W' => ∃ g a cr rs, e = .returned (.tuple #[.pointer (some ⟨g, 0, none⟩), .int .i64 0]) ∧ St W (owns []) W' [blk g [.slice (some ⟨a, 0, none⟩) rs.length cr, .int .i64 cols] 105, row (some ⟨a, 0, none⟩) rs.length cr (cf cpt rs) 98 1, many (rsE 113 110 cols rs)] ∧ rs = List.replicate rows.toNat none := by
  have HS : St W (owns []) W [] := St.start W _
  refine calls_enter [.int .i64 rows, .int .i64 cols, undef, undef, undef, undef, undef, undef, undef, undef, undef, undef, undef, undef, undef, undef, undef, undef, undef, undef, undef, undef, undef, undef, undef] Try.func56 rfl (by kernel_rfl) ?_
  refine wp_seq ?_
  refine wp_region_lit ?_
  refine ql (.pointer none) (by kernel_rfl) (by kernel_rfl) ?_
  refine ql (.int .i64 0) (by kernel_rfl) (by kernel_rfl) ?_
  refine wpList_nil ?_
  refine x_then ?_
  refine wp_seq ?_
  refine wp_block ?_
  refine wp_seq ?_
  refine wp_region_lit ?_
  refine ql (.int .i64 rows) (by kernel_rfl) (by kernel_rfl) ?_
  refine ql (.bool false) (by kernel_rfl) (R_nbool (p := rows < (0 : Int)) (by kernel_rfl) (by omega)) ?_
  refine ql (.bool false) (by kernel_rfl) (by kernel_rfl) ?_
  refine ql (.int .i64 cols) (by kernel_rfl) (by kernel_rfl) ?_
  refine ql (.bool false) (by kernel_rfl) (R_nbool (p := cols < (0 : Int)) (by kernel_rfl) (by omega)) ?_
  refine ql (.bool false) (by kernel_rfl) (by kernel_rfl) ?_
  refine ql (.bool false) (by kernel_rfl) (by kernel_rfl) ?_
  refine wpList_nil ?_
  refine x_then ?_
  refine wp_cond_false (by kernel_rfl) ?_
  refine wp_seq ?_
  refine wp_region_lit ?_
  refine ql (.int .i64 rows) (by kernel_rfl) (by kernel_rfl) ?_
  refine ql (.bool false) (by kernel_rfl) (R_nbool (p := rows > (65536 : Int)) (by kernel_rfl) (by omega)) ?_
  refine ql (.bool false) (by kernel_rfl) (by kernel_rfl) ?_
  refine ql (.int .i64 cols) (by kernel_rfl) (by kernel_rfl) ?_
  refine ql (.bool false) (by kernel_rfl) (R_nbool (p := cols > (65536 : Int)) (by kernel_rfl) (by omega)) ?_
  refine ql (.bool false) (by kernel_rfl) (by kernel_rfl) ?_
  refine ql (.bool false) (by kernel_rfl) (by kernel_rfl) ?_
  refine wpList_nil ?_
  refine x_then ?_
  refine wp_cond_false (by kernel_rfl) ?_
  refine wp_skip ?_
  refine x_inb ?_
  refine x_then ?_
  refine wp_seq ?_
  refine wp_region_lit ?_
  refine ql (.int .i64 rows) (by kernel_rfl) (by kernel_rfl) ?_
  refine km HS (rows.toNat) [.pointer none] 8 (by kernel_rfl) (k_eq (k := .i64) (m := rows) (by kernel_rfl) (by omega)) (k_eq (k := .i64) (m := rows) (by kernel_rfl) (by omega)) Try.underlying103 (by kernel_rfl) (by kernel_rfl) (by kernel_rfl) (by decide) (by omega) (by omega) ?_
  intro g1 W2 H_
  replace HS : St W (owns []) W2 [row (some ⟨g1, 0, none⟩) rows.toNat rows.toNat (cf cpt (List.replicate rows.toNat (none : Rw))) 98 1] := H_.cast_ (by rw [cf_rep]; rfl)
  clear H_
  have rlg1 : (List.replicate rows.toNat (none : Rw)).length = rows.toNat := List.length_replicate
  refine ql (.int .i64 cols) (by kernel_rfl) (by kernel_rfl) ?_
  refine ql (.agg #[.slice (some ⟨g1, 0, none⟩) rows.toNat rows.toNat, .int .i64 cols]) (by kernel_rfl) (by kernel_rfl) ?_
  refine kb HS [.slice (some ⟨g1, 0, none⟩) rows.toNat rows.toNat, .int .i64 cols] 105 (fun g => .pointer (some ⟨g, 0, none⟩)) (by kernel_rfl) (by kernel_rfl) ?_
  intro g3 W4 H_
  replace HS : St W (owns []) W4 [blk g3 [.slice (some ⟨g1, 0, none⟩) rows.toNat rows.toNat, .int .i64 cols] 105, row (some ⟨g1, 0, none⟩) rows.toNat rows.toNat (cf cpt (List.replicate rows.toNat (none : Rw))) 98 1] := H_
  clear H_
  refine ql (.pointer (some ⟨g3, 0, none⟩)) (by kernel_rfl) (by kernel_rfl) ?_
  refine ql (.int .i64 0) (by kernel_rfl) (by kernel_rfl) ?_
  refine wpList_nil ?_
  refine x_then ?_
  refine wp_ret ?_
  refine ret_ (.tuple #[.pointer (some ⟨g3, 0, none⟩), .int .i64 0]) (by kernel_rfl) ?_
  obtain ⟨rs, hrs⟩ : ∃ z_ : List Rw, z_ = List.replicate rows.toNat none := ⟨_, rfl⟩
  have hl : rows.toNat = rs.length := by rw [hrs, List.length_replicate]
  rw [← hrs] at HS
  rw [hl] at HS
  replace HS := HS.nilM
  replace HS : St W (owns []) W4 [blk g3 [.slice (some ⟨g1, 0, none⟩) rs.length rs.length, .int .i64 cols] 105, row (some ⟨g1, 0, none⟩) rs.length rs.length (cf cpt rs) 98 1, many []] := HS.perm (perm_ [1, 2, 0] (by kernel_rfl) rfl)
  have hrn : rsE 113 110 cols rs = [] := by rw [hrs]; exact rsE_nil
  exact ⟨_, _, _, rs, by first | rfl | rw [hl], by rw [hrn]; exact HS, hrs⟩

set_option maxRecDepth 100000 in
set_option maxHeartbeats 1000000 in
theorem mown_o (g cr : Nat) (R : Option Addr) (cols : Int) (rs : List Rw) (Ls : List (List Int)) (r : Int) (W : World) (M : Nat → Prop) (HS : St W M W [blk g [.slice R rs.length cr, .int .i64 cols] 105, row R rs.length cr (cf cpt rs) 98 1, many (rsE 113 110 cols rs)]) (hR : MRep rs cols Ls) (hc : cols ≤ 65536) (hl : rs.length ≤ 65536) (ho : r < 0 ∨ (rs.length : Int) ≤ r) : Calls Try.prog 79 #[.pointer (some ⟨g, 0, none⟩), .int .i64 r] W fun e W' => e = .returned (.pointer none) ∧ St W M W' [blk g [.slice R rs.length cr, .int .i64 cols] 105, row R rs.length cr (cf cpt rs) 98 1, many (rsE 113 110 cols rs)] := by
  have h0c := hR.c0
  refine calls_enter [.pointer (some ⟨g, 0, none⟩), .int .i64 r, undef, undef, undef, undef, undef, undef, undef, undef, undef, undef, undef, undef, undef, undef, undef, undef, undef, undef, undef, undef, undef, undef, undef, undef, undef, undef, undef, undef, undef, undef, undef, undef, undef, undef, undef, undef, undef, undef, undef, undef] Try.func79 rfl (by kernel_rfl) ?_
  refine wp_seq ?_
  refine wp_region_lit ?_
  refine ql (.pointer none) (by kernel_rfl) (by kernel_rfl) ?_
  refine wpList_nil ?_
  refine x_then ?_
  refine wp_seq ?_
  refine wp_seq ?_
  refine wp_region_lit ?_
  refine ql (.int .i64 r) (by kernel_rfl) (by kernel_rfl) ?_
  by_cases hc1 : r < (0 : Int)
  · skip
    refine ql (.bool true) (by kernel_rfl) (R_bool (p := r < (0 : Int)) (by kernel_rfl) (hc1)) ?_
    refine ql (.bool true) (by kernel_rfl) (by kernel_rfl) ?_
    refine qln (by kernel_rfl) ?_
    refine qln (by kernel_rfl) ?_
    refine qln (by kernel_rfl) ?_
    refine qln (by kernel_rfl) ?_
    refine ql (.bool true) (by kernel_rfl) (by kernel_rfl) ?_
    refine wpList_nil ?_
    refine x_then ?_
    refine wp_cond_true (by kernel_rfl) ?_
    refine wp_seq ?_
    refine wp_region_lit ?_
    refine ql (.pointer none) (by kernel_rfl) (by kernel_rfl) ?_
    refine wpList_nil ?_
    refine x_then ?_
    refine wp_ret ?_
    refine x_thenR ?_
    refine ret_ (.pointer none) (by kernel_rfl) ?_
    exact ⟨rfl, HS⟩
  · skip
    refine ql (.bool false) (by kernel_rfl) (R_nbool (p := r < (0 : Int)) (by kernel_rfl) (hc1)) ?_
    refine ql (.bool false) (by kernel_rfl) (by kernel_rfl) ?_
    refine ql (.int .i64 r) (by kernel_rfl) (by kernel_rfl) ?_
    refine ql (.pointer (some ⟨g, 0, none⟩)) (by kernel_rfl) (by kernel_rfl) ?_
    refine qc (f := 80) (args := #[.pointer (some ⟨g, 0, none⟩)]) (by kernel_rfl) (R_call #[.pointer (some ⟨g, 0, none⟩)] Try.func80 (by kernel_rfl) (by kernel_rfl) (by kernel_rfl)) ?_
    refine (mrows g cr R cols rs Ls _ (Mr.of HS (i := 0) (j := 1) (m := 2) rfl rfl rfl) hR hc hl).mono ?_
    rintro e W2 ⟨rfl, H_⟩
    refine ⟨_, rfl, ?_⟩
    replace HS : St W M W2 [blk g [.slice R rs.length cr, .int .i64 cols] 105, row R rs.length cr (cf cpt rs) 98 1, many (rsE 113 110 cols rs)] := HS.join (F := []) (G := []) H_
    clear H_
    by_cases hc3 : r ≥ (rs.length : Int)
    · skip
      refine ql (.bool true) (by kernel_rfl) (R_bool (p := r ≥ (rs.length : Int)) (by kernel_rfl) (hc3)) ?_
      refine ql (.bool true) (by kernel_rfl) (by kernel_rfl) ?_
      refine wpList_nil ?_
      refine x_then ?_
      refine wp_cond_true (by kernel_rfl) ?_
      refine wp_seq ?_
      refine wp_region_lit ?_
      refine ql (.pointer none) (by kernel_rfl) (by kernel_rfl) ?_
      refine wpList_nil ?_
      refine x_then ?_
      refine wp_ret ?_
      refine x_thenR ?_
      refine ret_ (.pointer none) (by kernel_rfl) ?_
      exact ⟨rfl, HS⟩
    · skip
      refine ql (.bool false) (by kernel_rfl) (R_nbool (p := r ≥ (rs.length : Int)) (by kernel_rfl) (hc3)) ?_
      refine ql (.bool false) (by kernel_rfl) (by kernel_rfl) ?_
      refine wpList_nil ?_
      refine x_then ?_
      refine wp_cond_false (by kernel_rfl) ?_
      refine wp_skip ?_
      refine x_then ?_
      refine wp_seq ?_
      refine wp_seq ?_
      refine wp_region_lit ?_
      refine ql (.pointer (some ⟨g, 0, none⟩)) (by kernel_rfl) (by kernel_rfl) ?_
      refine ql (.pointer (some ⟨g, 0, none⟩)) (by kernel_rfl) (by kernel_rfl) ?_
      refine ql (.pointer (some ⟨g, 0, none⟩)) (by kernel_rfl) (by kernel_rfl) ?_
      refine ql (.slice R rs.length cr) (by kernel_rfl) (R_load (p := ⟨g, 0, none⟩) (by kernel_rfl) (by kernel_rfl) (by kernel_rfl) (HS.cell (i := 0) (j := 0) rfl rfl)) ?_
      refine ql (.int .i64 r) (by kernel_rfl) (by kernel_rfl) ?_
      exfalso; omega

set_option maxRecDepth 100000 in
set_option maxHeartbeats 1000000 in
theorem mown_s (g cr : Nat) (R : Option Addr) (cols : Int) (rs : List Rw) (Ls : List (List Int)) (r : Int) (g1 c1 : Nat) (A1 : Option Addr) (ws1 : List Int) (W : World) (M : Nat → Prop) (HS : St W M W [blk g [.slice R rs.length cr, .int .i64 cols] 105, row R rs.length cr (cf cpt rs) 98 1, many (rsE 113 110 cols rs)]) (hR : MRep rs cols Ls) (hc : cols ≤ 65536) (hl : rs.length ≤ 65536) (h0 : 0 ≤ r) (h1 : r < rs.length) (hx : gx rs r = some (g1, A1, c1, ws1)) : Calls Try.prog 79 #[.pointer (some ⟨g, 0, none⟩), .int .i64 r] W fun e W' => ∃ rs' g1 c1 A1 ws1, e = .returned (.pointer (some ⟨g1, 0, none⟩)) ∧ St W M W' [blk g [.slice R rs'.length cr, .int .i64 cols] 105, row R rs'.length cr (cf cpt rs') 98 1, many (rsE 113 110 cols rs')] ∧ MRep rs' cols Ls ∧ mget rs' r = some (g1, A1, c1, ws1) ∧ rs'.length = rs.length ∧ (∀ q y, mget rs q = some y → mget rs' q = some y) := by
  have h0c := hR.c0
  refine calls_enter [.pointer (some ⟨g, 0, none⟩), .int .i64 r, undef, undef, undef, undef, undef, undef, undef, undef, undef, undef, undef, undef, undef, undef, undef, undef, undef, undef, undef, undef, undef, undef, undef, undef, undef, undef, undef, undef, undef, undef, undef, undef, undef, undef, undef, undef, undef, undef, undef, undef] Try.func79 rfl (by kernel_rfl) ?_
  refine wp_seq ?_
  refine wp_region_lit ?_
  refine ql (.pointer none) (by kernel_rfl) (by kernel_rfl) ?_
  refine wpList_nil ?_
  refine x_then ?_
  refine wp_seq ?_
  refine wp_seq ?_
  refine wp_region_lit ?_
  refine ql (.int .i64 r) (by kernel_rfl) (by kernel_rfl) ?_
  refine ql (.bool false) (by kernel_rfl) (R_nbool (p := r < (0 : Int)) (by kernel_rfl) (by omega)) ?_
  refine ql (.bool false) (by kernel_rfl) (by kernel_rfl) ?_
  refine ql (.int .i64 r) (by kernel_rfl) (by kernel_rfl) ?_
  refine ql (.pointer (some ⟨g, 0, none⟩)) (by kernel_rfl) (by kernel_rfl) ?_
  refine qc (f := 80) (args := #[.pointer (some ⟨g, 0, none⟩)]) (by kernel_rfl) (R_call #[.pointer (some ⟨g, 0, none⟩)] Try.func80 (by kernel_rfl) (by kernel_rfl) (by kernel_rfl)) ?_
  refine (mrows g cr R cols rs Ls _ (Mr.of HS (i := 0) (j := 1) (m := 2) rfl rfl rfl) hR hc hl).mono ?_
  rintro e W1 ⟨rfl, H_⟩
  refine ⟨_, rfl, ?_⟩
  replace HS : St W M W1 [blk g [.slice R rs.length cr, .int .i64 cols] 105, row R rs.length cr (cf cpt rs) 98 1, many (rsE 113 110 cols rs)] := HS.join (F := []) (G := []) H_
  clear H_
  refine ql (.bool false) (by kernel_rfl) (R_nbool (p := r ≥ (rs.length : Int)) (by kernel_rfl) (by omega)) ?_
  refine ql (.bool false) (by kernel_rfl) (by kernel_rfl) ?_
  refine wpList_nil ?_
  refine x_then ?_
  refine wp_cond_false (by kernel_rfl) ?_
  refine wp_skip ?_
  refine x_then ?_
  refine wp_seq ?_
  refine wp_seq ?_
  refine wp_region_lit ?_
  refine ql (.pointer (some ⟨g, 0, none⟩)) (by kernel_rfl) (by kernel_rfl) ?_
  refine ql (.pointer (some ⟨g, 0, none⟩)) (by kernel_rfl) (by kernel_rfl) ?_
  refine ql (.pointer (some ⟨g, 0, none⟩)) (by kernel_rfl) (by kernel_rfl) ?_
  refine ql (.slice R rs.length cr) (by kernel_rfl) (R_load (p := ⟨g, 0, none⟩) (by kernel_rfl) (by kernel_rfl) (by kernel_rfl) (HS.cell (i := 0) (j := 0) rfl rfl)) ?_
  refine ql (.int .i64 r) (by kernel_rfl) (by kernel_rfl) ?_
  obtain ⟨g2, rfl⟩ := St.rsome HS (i := 1) rfl (by omega)
  refine ql (.pointer (some ⟨g2, r.toNat, none⟩)) (by kernel_rfl) (R_index1 (k := .i64) (g := g2) (n := rs.length) (c := cr) (i := r) (by kernel_rfl) (by kernel_rfl) Try.underlying103 (by kernel_rfl) (by omega) (by omega)) ?_
  refine ql (.pointer (some ⟨g1, 0, none⟩)) (by kernel_rfl) (R_load (p := ⟨g2, r.toNat, none⟩) (by kernel_rfl) (by kernel_rfl) (by kernel_rfl) (HS.elemC (f := cpt) (fun _ => rfl) (i := 1) rfl (gx_eq (by omega) (by omega)) (by rw [hx]; rfl))) ?_
  refine ql (.bool false) (by kernel_rfl) (by kernel_rfl) ?_
  refine wpList_nil ?_
  refine x_then ?_
  refine wp_cond_false (by kernel_rfl) ?_
  refine wp_skip ?_
  refine x_then ?_
  refine wp_seq ?_
  refine wp_region_lit ?_
  refine ql (.pointer (some ⟨g, 0, none⟩)) (by kernel_rfl) (by kernel_rfl) ?_
  refine ql (.pointer (some ⟨g, 0, none⟩)) (by kernel_rfl) (by kernel_rfl) ?_
  refine ql (.pointer (some ⟨g, 0, none⟩)) (by kernel_rfl) (by kernel_rfl) ?_
  refine ql (.slice (some ⟨g2, 0, none⟩) rs.length cr) (by kernel_rfl) (R_load (p := ⟨g, 0, none⟩) (by kernel_rfl) (by kernel_rfl) (by kernel_rfl) (HS.cell (i := 0) (j := 0) rfl rfl)) ?_
  refine ql (.int .i64 r) (by kernel_rfl) (by kernel_rfl) ?_
  refine ql (.pointer (some ⟨g2, r.toNat, none⟩)) (by kernel_rfl) (R_index1 (k := .i64) (g := g2) (n := rs.length) (c := cr) (i := r) (by kernel_rfl) (by kernel_rfl) Try.underlying103 (by kernel_rfl) (by omega) (by omega)) ?_
  refine ql (.pointer (some ⟨g1, 0, none⟩)) (by kernel_rfl) (R_load (p := ⟨g2, r.toNat, none⟩) (by kernel_rfl) (by kernel_rfl) (by kernel_rfl) (HS.elemC (f := cpt) (fun _ => rfl) (i := 1) rfl (gx_eq (by omega) (by omega)) (by rw [hx]; rfl))) ?_
  refine ql (.pointer (some ⟨g1, 0, none⟩)) (by kernel_rfl) (by kernel_rfl) ?_
  refine wpList_nil ?_
  refine x_then ?_
  refine wp_ret ?_
  refine ret_ (.pointer (some ⟨g1, 0, none⟩)) (by kernel_rfl) ?_
  exact ⟨rs, g1, c1, A1, ws1, rfl, HS, hR, by rw [← mget_gx h0 h1]; exact hx, rfl, fun q y h_ => h_⟩

set_option maxRecDepth 100000 in
set_option maxHeartbeats 1000000 in
theorem mown_n (g cr : Nat) (R : Option Addr) (cols : Int) (rs : List Rw) (Ls : List (List Int)) (r : Int) (W : World) (M : Nat → Prop) (HS : St W M W [blk g [.slice R rs.length cr, .int .i64 cols] 105, row R rs.length cr (cf cpt rs) 98 1, many (rsE 113 110 cols rs)]) (hR : MRep rs cols Ls) (hc : cols ≤ 65536) (hl : rs.length ≤ 65536) (h0 : 0 ≤ r) (h1 : r < rs.length) (hx : gx rs r = none) : Calls Try.prog 79 #[.pointer (some ⟨g, 0, none⟩), .int .i64 r] W fun e W' => ∃ rs' g1 c1 A1 ws1, e = .returned (.pointer (some ⟨g1, 0, none⟩)) ∧ St W M W' [blk g [.slice R rs'.length cr, .int .i64 cols] 105, row R rs'.length cr (cf cpt rs') 98 1, many (rsE 113 110 cols rs')] ∧ MRep rs' cols Ls ∧ mget rs' r = some (g1, A1, c1, ws1) ∧ rs'.length = rs.length ∧ (∀ q y, mget rs q = some y → mget rs' q = some y) := by
  have h0c := hR.c0
  refine calls_enter [.pointer (some ⟨g, 0, none⟩), .int .i64 r, undef, undef, undef, undef, undef, undef, undef, undef, undef, undef, undef, undef, undef, undef, undef, undef, undef, undef, undef, undef, undef, undef, undef, undef, undef, undef, undef, undef, undef, undef, undef, undef, undef, undef, undef, undef, undef, undef, undef, undef] Try.func79 rfl (by kernel_rfl) ?_
  refine wp_seq ?_
  refine wp_region_lit ?_
  refine ql (.pointer none) (by kernel_rfl) (by kernel_rfl) ?_
  refine wpList_nil ?_
  refine x_then ?_
  refine wp_seq ?_
  refine wp_seq ?_
  refine wp_region_lit ?_
  refine ql (.int .i64 r) (by kernel_rfl) (by kernel_rfl) ?_
  refine ql (.bool false) (by kernel_rfl) (R_nbool (p := r < (0 : Int)) (by kernel_rfl) (by omega)) ?_
  refine ql (.bool false) (by kernel_rfl) (by kernel_rfl) ?_
  refine ql (.int .i64 r) (by kernel_rfl) (by kernel_rfl) ?_
  refine ql (.pointer (some ⟨g, 0, none⟩)) (by kernel_rfl) (by kernel_rfl) ?_
  refine qc (f := 80) (args := #[.pointer (some ⟨g, 0, none⟩)]) (by kernel_rfl) (R_call #[.pointer (some ⟨g, 0, none⟩)] Try.func80 (by kernel_rfl) (by kernel_rfl) (by kernel_rfl)) ?_
  refine (mrows g cr R cols rs Ls _ (Mr.of HS (i := 0) (j := 1) (m := 2) rfl rfl rfl) hR hc hl).mono ?_
  rintro e W1 ⟨rfl, H_⟩
  refine ⟨_, rfl, ?_⟩
  replace HS : St W M W1 [blk g [.slice R rs.length cr, .int .i64 cols] 105, row R rs.length cr (cf cpt rs) 98 1, many (rsE 113 110 cols rs)] := HS.join (F := []) (G := []) H_
  clear H_
  refine ql (.bool false) (by kernel_rfl) (R_nbool (p := r ≥ (rs.length : Int)) (by kernel_rfl) (by omega)) ?_
  refine ql (.bool false) (by kernel_rfl) (by kernel_rfl) ?_
  refine wpList_nil ?_
  refine x_then ?_
  refine wp_cond_false (by kernel_rfl) ?_
  refine wp_skip ?_
  refine x_then ?_
  refine wp_seq ?_
  refine wp_seq ?_
  refine wp_region_lit ?_
  refine ql (.pointer (some ⟨g, 0, none⟩)) (by kernel_rfl) (by kernel_rfl) ?_
  refine ql (.pointer (some ⟨g, 0, none⟩)) (by kernel_rfl) (by kernel_rfl) ?_
  refine ql (.pointer (some ⟨g, 0, none⟩)) (by kernel_rfl) (by kernel_rfl) ?_
  refine ql (.slice R rs.length cr) (by kernel_rfl) (R_load (p := ⟨g, 0, none⟩) (by kernel_rfl) (by kernel_rfl) (by kernel_rfl) (HS.cell (i := 0) (j := 0) rfl rfl)) ?_
  refine ql (.int .i64 r) (by kernel_rfl) (by kernel_rfl) ?_
  obtain ⟨g2, rfl⟩ := St.rsome HS (i := 1) rfl (by omega)
  refine ql (.pointer (some ⟨g2, r.toNat, none⟩)) (by kernel_rfl) (R_index1 (k := .i64) (g := g2) (n := rs.length) (c := cr) (i := r) (by kernel_rfl) (by kernel_rfl) Try.underlying103 (by kernel_rfl) (by omega) (by omega)) ?_
  refine ql (.pointer none) (by kernel_rfl) (R_load (p := ⟨g2, r.toNat, none⟩) (by kernel_rfl) (by kernel_rfl) (by kernel_rfl) (HS.elemC (f := cpt) (fun _ => rfl) (i := 1) rfl (gx_eq (by omega) (by omega)) (by rw [hx]; rfl))) ?_
  refine ql (.bool true) (by kernel_rfl) (by kernel_rfl) ?_
  refine wpList_nil ?_
  refine x_then ?_
  refine wp_cond_true (by kernel_rfl) ?_
  refine t_start HS (fun k_ => (row (some ⟨g2, 0, none⟩) rs.length cr (cf cpt rs) 98 1).own k_) 15 (by kernel_rfl) rfl ?_
  intro W3 H_ HD_
  clear HD_
  replace HS : St W M W3 [blk g [.slice (some ⟨g2, 0, none⟩) rs.length cr, .int .i64 cols] 105, row (some ⟨g2, 0, none⟩) rs.length cr (cf cpt rs) 98 1, many (rsE 113 110 cols rs)] := H_
  clear H_
  have HV := HS
  have HK := Kpt.refl (fun k_ => (row (some ⟨g2, 0, none⟩) rs.length cr (cf cpt rs) 98 1).own k_) W3
  refine t_q (n := 14) 0 (.pointer (some ⟨g, 0, none⟩)) rfl (by kernel_rfl) (by kernel_rfl) (fun _ _ _ h => h) (fun w' hk => (by kernel_rfl)) HK ?_
  refine t_q (n := 13) 1 (.pointer (some ⟨g, 0, none⟩)) rfl (by kernel_rfl) (by kernel_rfl) (fun _ _ _ h => h) (fun w' hk => (by kernel_rfl)) HK ?_
  refine t_q (n := 12) 2 (.pointer (some ⟨g, 0, none⟩)) rfl (by kernel_rfl) (by kernel_rfl) (fun _ _ _ h => h) (fun w' hk => (by kernel_rfl)) HK ?_
  refine t_q (n := 11) 3 (.slice (some ⟨g2, 0, none⟩) rs.length cr) rfl (by kernel_rfl) (by kernel_rfl) (fun _ _ _ h => h) (fun w' hk => (R_load (p := ⟨g, 0, none⟩) (by kernel_rfl) (by kernel_rfl) (by kernel_rfl) (hk.cellN (HV.sepB (a := 0) (b := 1) (by decide) rfl rfl) (HV.cell (i := 0) (j := 0) rfl rfl)))) HK ?_
  refine t_q (n := 10) 4 (.int .i64 r) rfl (by kernel_rfl) (by kernel_rfl) (fun _ _ _ h => h) (fun w' hk => (by kernel_rfl)) HK ?_
  refine t_q (n := 9) 5 (.pointer (some ⟨g, 0, none⟩)) rfl (by kernel_rfl) (by kernel_rfl) (fun _ _ _ h => h) (fun w' hk => (by kernel_rfl)) HK ?_
  refine t_q (n := 8) 6 (.pointer (some ⟨g, 0, none⟩)) rfl (by kernel_rfl) (by kernel_rfl) (fun _ _ _ h => h) (fun w' hk => (by kernel_rfl)) HK ?_
  refine t_q (n := 7) 7 (.pointer (some ⟨g, 1, none⟩)) rfl (by kernel_rfl) (by kernel_rfl) (fun _ _ _ h => h) (fun w' hk => (by kernel_rfl)) HK ?_
  refine t_q (n := 6) 8 (.int .i64 cols) rfl (by kernel_rfl) (by kernel_rfl) (fun _ _ _ h => h) (fun w' hk => (R_load (p := ⟨g, 1, none⟩) (by kernel_rfl) (by kernel_rfl) (by kernel_rfl) (hk.cellN (HV.sepB (a := 0) (b := 1) (by decide) rfl rfl) (HV.cell (i := 0) (j := 1) rfl rfl)))) HK ?_
  refine t_c (n := 5) 9 (f := 88) (args := #[.int .i64 cols]) rfl (by kernel_rfl) (by kernel_rfl) (R_call #[.int .i64 cols] Try.func88 (by kernel_rfl) (by kernel_rfl) (by kernel_rfl)) ?_
  refine (dnew_ok cols _ h0c (by omega)).mono ?_
  rintro e W4 ⟨g9, a9, c9, ws9, rfl, H_, hR9⟩
  refine ⟨_, rfl, HK.tr H_.kept.nil, ?_⟩
  replace HK := HK.tr H_.kept.nil
  replace HS : St W M W4 [blk g9 [.slice (some ⟨a9, 0, none⟩) ws9.length c9, .int .i64 cols] 113, row (some ⟨a9, 0, none⟩) ws9.length c9 (ci .u64 ws9) 110 1, blk g [.slice (some ⟨g2, 0, none⟩) rs.length cr, .int .i64 cols] 105, row (some ⟨g2, 0, none⟩) rs.length cr (cf cpt rs) 98 1, many (rsE 113 110 cols rs)] := HS.join (F := []) (G := [blk g9 [.slice (some ⟨a9, 0, none⟩) ws9.length c9, .int .i64 cols] 113, row (some ⟨a9, 0, none⟩) ws9.length c9 (ci .u64 ws9) 110 1]) H_
  clear H_
  refine t_q (n := 4) 10 (.tuple #[.pointer (some ⟨g9, 0, none⟩), .int .i64 0]) rfl (by kernel_rfl) (by kernel_rfl) (fun _ _ _ h => h) (fun w' hk => (by kernel_rfl)) HK ?_
  refine t_q (n := 3) 11 (.pointer (some ⟨g9, 0, none⟩)) rfl (by kernel_rfl) (by kernel_rfl) (fun _ _ _ h => h) (fun w' hk => (by kernel_rfl)) HK ?_
  refine t_q (n := 2) 12 (.int .i64 0) rfl (by kernel_rfl) (by kernel_rfl) (fun _ _ _ h => h) (fun w' hk => (by kernel_rfl)) HK ?_
  refine t_q (n := 1) 13 (.pointer (some ⟨g2, r.toNat, none⟩)) rfl (by kernel_rfl) (by kernel_rfl) (fun _ _ _ h => h) (fun w' hk => (R_index1 (k := .i64) (g := g2) (n := rs.length) (c := cr) (i := r) (by kernel_rfl) (by kernel_rfl) Try.underlying103 (by kernel_rfl) (by omega) (by omega))) HK ?_
  obtain ⟨W5, hrun_, H_, hk_⟩ := ex_kr (P := Try.prog) (ty := 0) (ps := "matrix.go:56") (af := #[{ on := 13, ground := Go.Ground.data }, { on := 11, ground := Go.Ground.data }, { on := 9, ground := Go.Ground.chain }, { on := 0, ground := Go.Ground.phase }, { on := 1, ground := Go.Ground.phase }, { on := 2, ground := Go.Ground.phase }, { on := 3, ground := Go.Ground.phase }, { on := 4, ground := Go.Ground.phase }, { on := 5, ground := Go.Ground.phase }, { on := 6, ground := Go.Ground.phase }, { on := 7, ground := Go.Ground.phase }, { on := 8, ground := Go.Ground.phase }, { on := 9, ground := Go.Ground.phase }, { on := 10, ground := Go.Ground.phase }, { on := 11, ground := Go.Ground.phase }, { on := 12, ground := (Go.Ground.textOnly Go.Departure.lateStores) }]) (gd := none) (t := 98) (x := (Go.Operand.tmp 34)) (y := (Go.Operand.tmp 32)) (v := .pointer (some ⟨g9, 0, none⟩)) HS 3 rfl (r.toNat) [.pointer (some ⟨g9, 0, none⟩)] (by kernel_rfl) (by kernel_rfl) (by kernel_rfl) (by kernel_rfl) (one_ (by kernel_rfl)) (by rw [cf_len (z := 1) (fun _ => rfl)]; simp only [List.length_cons, List.length_nil]; omega)
  replace HK := HK.trans hk_ (fun _ h_ => .inl (row_own h_))
  refine t_s (n := 0) 14 rfl (by kernel_rfl) (by kernel_rfl) hrun_ HK ?_
  clear hk_ hrun_
  obtain ⟨xs6, xs6_⟩ : ∃ z_ : List Rw, z_ = (rs).set r.toNat (some (g9, some ⟨a9, 0, none⟩, c9, ws9) : Rw) := ⟨_, rfl⟩
  replace HS : St W M W5 [blk g9 [.slice (some ⟨a9, 0, none⟩) ws9.length c9, .int .i64 cols] 113, row (some ⟨a9, 0, none⟩) ws9.length c9 (ci .u64 ws9) 110 1, blk g [.slice (some ⟨g2, 0, none⟩) rs.length cr, .int .i64 cols] 105, row (some ⟨g2, 0, none⟩) rs.length cr (cf cpt xs6) 98 1, many (rsE 113 110 cols rs)] := H_.cast_ (by rw [xs6_, ← cf_set (z := 1) (fun _ => rfl) (by decide) _ _ _ (by omega), Nat.mul_one]; rfl)
  clear H_
  have xs6l : xs6.length = rs.length := by rw [xs6_, List.length_set]; first | done | omega
  refine t_done (by kernel_rfl) ?_
  clear HV HK
  refine x_then ?_
  refine wp_seq ?_
  have hq9 : gx xs6 r = some (g9, some ⟨a9, 0, none⟩, c9, ws9) := by rw [xs6_]; exact gx_setw _ h0 h1
  refine wp_region_lit ?_
  refine ql (.pointer (some ⟨g, 0, none⟩)) (by kernel_rfl) (by kernel_rfl) ?_
  refine ql (.pointer (some ⟨g, 0, none⟩)) (by kernel_rfl) (by kernel_rfl) ?_
  refine ql (.pointer (some ⟨g, 0, none⟩)) (by kernel_rfl) (by kernel_rfl) ?_
  refine ql (.slice (some ⟨g2, 0, none⟩) rs.length cr) (by kernel_rfl) (R_load (p := ⟨g, 0, none⟩) (by kernel_rfl) (by kernel_rfl) (by kernel_rfl) (HS.cell (i := 2) (j := 0) rfl rfl)) ?_
  refine ql (.int .i64 r) (by kernel_rfl) (by kernel_rfl) ?_
  refine ql (.pointer (some ⟨g2, r.toNat, none⟩)) (by kernel_rfl) (R_index1 (k := .i64) (g := g2) (n := rs.length) (c := cr) (i := r) (by kernel_rfl) (by kernel_rfl) Try.underlying103 (by kernel_rfl) (by omega) (by omega)) ?_
  refine ql (.pointer (some ⟨g9, 0, none⟩)) (by kernel_rfl) (R_load (p := ⟨g2, r.toNat, none⟩) (by kernel_rfl) (by kernel_rfl) (by kernel_rfl) (HS.elemC (f := cpt) (fun _ => rfl) (i := 3) rfl (gx_eq (by omega) (by omega)) (by rw [hq9]; rfl))) ?_
  refine ql (.pointer (some ⟨g9, 0, none⟩)) (by kernel_rfl) (by kernel_rfl) ?_
  refine wpList_nil ?_
  refine x_then ?_
  refine wp_ret ?_
  refine ret_ (.pointer (some ⟨g9, 0, none⟩)) (by kernel_rfl) ?_
  replace HS : St W M W5 [many (rsE 113 110 cols rs), blk g9 [.slice (some ⟨a9, 0, none⟩) ws9.length c9, .int .i64 cols] 113, row (some ⟨a9, 0, none⟩) ws9.length c9 (ci .u64 ws9) 110 1, blk g [.slice (some ⟨g2, 0, none⟩) rs.length cr, .int .i64 cols] 105, row (some ⟨g2, 0, none⟩) rs.length cr (cf cpt xs6) 98 1] := HS.perm (perm_ [4, 0, 1, 2, 3] (by kernel_rfl) rfl)
  have hrk : rs[r.toNat]? = some none := by rw [mget_in h0 h1, ← mget_gx h0 h1, hx]
  have HS1 : St W M W5 (rsE1 113 110 cols none ++ many (rsE 113 110 cols (rs.take r.toNat) ++ rsE 113 110 cols (rs.drop (r.toNat + 1))) :: [blk g9 [.slice (some ⟨a9, 0, none⟩) ws9.length c9, .int .i64 cols] 113, row (some ⟨a9, 0, none⟩) ws9.length c9 (ci .u64 ws9) 110 1, blk g [.slice (some ⟨g2, 0, none⟩) rs.length cr, .int .i64 cols] 105, row (some ⟨g2, 0, none⟩) rs.length cr (cf cpt xs6) 98 1]) := HS.takeR hrk
  have HS2 : St W M W5 [many (rsE 113 110 cols (rs.take r.toNat) ++ rsE 113 110 cols (rs.drop (r.toNat + 1))), blk g9 [.slice (some ⟨a9, 0, none⟩) ws9.length c9, .int .i64 cols] 113, row (some ⟨a9, 0, none⟩) ws9.length c9 (ci .u64 ws9) 110 1, blk g [.slice (some ⟨g2, 0, none⟩) rs.length cr, .int .i64 cols] 105, row (some ⟨g2, 0, none⟩) rs.length cr (cf cpt xs6) 98 1] := HS1
  have HS3 : St W M W5 [blk g9 [.slice (some ⟨a9, 0, none⟩) ws9.length c9, .int .i64 cols] 113, row (some ⟨a9, 0, none⟩) ws9.length c9 (ci .u64 ws9) 110 1, many (rsE 113 110 cols (rs.take r.toNat) ++ rsE 113 110 cols (rs.drop (r.toNat + 1))), blk g [.slice (some ⟨g2, 0, none⟩) rs.length cr, .int .i64 cols] 105, row (some ⟨g2, 0, none⟩) rs.length cr (cf cpt xs6) 98 1] := HS2.perm (perm_ [1, 2, 0, 3, 4] (by kernel_rfl) rfl)
  have HS4 : St W M W5 (many (rsE 113 110 cols (rs.set r.toNat (some (g9, some ⟨a9, 0, none⟩, c9, ws9)))) :: [blk g [.slice (some ⟨g2, 0, none⟩) rs.length cr, .int .i64 cols] 105, row (some ⟨g2, 0, none⟩) rs.length cr (cf cpt xs6) 98 1]) := St.giveR (y := some (g9, some ⟨a9, 0, none⟩, c9, ws9)) (by omega) HS3
  rw [← xs6_] at HS4
  have hql : rs.length = xs6.length := by rw [xs6_, List.length_set]
  rw [hql] at HS4
  have HS5 := HS4.perm (perm_ [1, 2, 0] (by kernel_rfl) rfl)
  have hm9 : MRep xs6 cols Ls := by rw [xs6_, ← set_rowL (Ls := Ls) h0 (by rw [← hR.len]; exact h1)]; exact hR.set_ (y := (g9, some ⟨a9, 0, none⟩, c9, ws9)) (by rw [hR.none_ (by rw [← mget_gx h0 h1]; exact hx)]; exact hR9)
  have hmg : ∀ p, mget xs6 p = if p = r then some (g9, some ⟨a9, 0, none⟩, c9, ws9) else mget rs p := fun p => by rw [xs6_]; exact mget_set h0 h1
  exact ⟨xs6, g9, c9, _, ws9, rfl, HS5, hm9, by rw [hmg, if_pos rfl], hql.symm, fun p y h_ => by rw [hmg]; split; (rename_i e_; subst e_; rw [← mget_gx h0 h1, hx] at h_; cases h_); exact h_⟩

theorem mown (g cr : Nat) (R : Option Addr) (cols : Int) (rs : List Rw) (Ls : List (List Int)) (r : Int) (W : World) (M : Nat → Prop) (HS : St W M W [blk g [.slice R rs.length cr, .int .i64 cols] 105, row R rs.length cr (cf cpt rs) 98 1, many (rsE 113 110 cols rs)]) (hR : MRep rs cols Ls) (hc : cols ≤ 65536) (hl : rs.length ≤ 65536) (h0 : 0 ≤ r) (h1 : r < rs.length) : Calls Try.prog 79 #[.pointer (some ⟨g, 0, none⟩), .int .i64 r] W fun e W' => ∃ rs' g1 c1 A1 ws1, e = .returned (.pointer (some ⟨g1, 0, none⟩)) ∧ St W M W' [blk g [.slice R rs'.length cr, .int .i64 cols] 105, row R rs'.length cr (cf cpt rs') 98 1, many (rsE 113 110 cols rs')] ∧ MRep rs' cols Ls ∧ mget rs' r = some (g1, A1, c1, ws1) ∧ rs'.length = rs.length ∧ (∀ q y, mget rs q = some y → mget rs' q = some y) := by
  rcases hx : gx rs r with _ | ⟨g1, A1, c1, ws1⟩
  · exact mown_n g cr R cols rs Ls r W M HS hR hc hl h0 h1 hx
  · exact mown_s g cr R cols rs Ls r g1 c1 A1 ws1 W M HS hR hc hl h0 h1 hx

open Go.Shelf

theorem cpt_set {rs : List Rw} {k : Nat} {y z : Nat × Option Addr × Nat × List Int} (h : rs[k]? = some (some z)) (e : y.1 = z.1 := by rfl) : cf cpt rs = cf cpt (rs.set k (some y)) := by
  obtain ⟨hk, h2⟩ := List.getElem?_eq_some_iff.1 h
  have e1 : cpt (some y) = cpt rs[k] := by rw [h2]; unfold cpt; simp [e]
  unfold cf
  rw [List.flatMap_def, List.flatMap_def, List.map_set, e1]
  have e2 : (rs.map cpt).set k (cpt rs[k]) = rs.map cpt := by
    have h3 : (rs.map cpt)[k]'(by rw [List.length_map]; exact hk) = cpt rs[k] := List.getElem_map _
    rw [← h3, List.set_getElem_self]
  rw [e2]
theorem daddu (g c : Nat) (A : Option Addr) (ws : List Int) (n : Int) (L : List Int) (i : Int) (W : World) (M : Nat → Prop) (HS : St W M W [blk g [.slice A ws.length c, .int .i64 n] 113, row A ws.length c (ci .u64 ws) 110 1]) (hR : Rep ws n L) (hn : n ≤ 1048576) : Calls Try.prog 71 #[.pointer (some ⟨g, 0, none⟩), .int .i64 i] W fun e W' => ∃ ws', e = .returned (.bool (addB n L i)) ∧ St W M W' [blk g [.slice A ws'.length c, .int .i64 n] 113, row A ws'.length c (ci .u64 ws') 110 1] ∧ Rep ws' n (addL n L i) := by
  by_cases h : 0 ≤ i ∧ i < n
  · by_cases hi : i ∈ L
    · have ha := addL_out (n := n) (.inr (.inr hi))
      refine (dadd_old g c A ws n L i W M HS hR hn hi).mono ?_
      rintro e W' ⟨rfl, H⟩
      exact ⟨ws, by rw [ha.2], H, by rw [ha.1]; exact hR⟩
    · have ha := addL_in h.1 h.2 hi
      refine (dadd_new g c A ws n L i W M HS hR hn h.1 h.2 hi).mono ?_
      rintro e W' ⟨ws', rfl, H, h2⟩
      exact ⟨ws', by rw [ha.2], H, by rw [ha.1]; exact h2⟩
  · have ha := addL_out (n := n) (i := i) (L := L) (by omega)
    refine (dadd_out g c A ws n L i W M HS hR hn (by omega)).mono ?_
    rintro e W' ⟨rfl, H⟩
    exact ⟨ws, by rw [ha.2], H, by rw [ha.1]; exact hR⟩

set_option maxRecDepth 100000 in
set_option maxHeartbeats 1000000 in
theorem madd (g cr : Nat) (R : Option Addr) (cols : Int) (rs : List Rw) (Ls : List (List Int)) (r c : Int) (W : World) (M : Nat → Prop) (HS : St W M W [blk g [.slice R rs.length cr, .int .i64 cols] 105, row R rs.length cr (cf cpt rs) 98 1, many (rsE 113 110 cols rs)]) (hR : MRep rs cols Ls) (hc : cols ≤ 65536) (hl : rs.length ≤ 65536) : Calls Try.prog 57 #[.pointer (some ⟨g, 0, none⟩), .int .i64 r, .int .i64 c] W fun e W' => ∃ rs', e = .returned (.bool (addMB Ls cols r c)) ∧ St W M W' [blk g [.slice R rs'.length cr, .int .i64 cols] 105, row R rs'.length cr (cf cpt rs') 98 1, many (rsE 113 110 cols rs')] ∧ MRep rs' cols (addM Ls cols r c) ∧ rs'.length = rs.length := by
  have h0c := hR.c0
  have hlen := hR.len
  refine calls_enter [.pointer (some ⟨g, 0, none⟩), .int .i64 r, .int .i64 c, undef, undef, undef, undef, undef, undef, undef, undef, undef, undef, undef, undef, undef, undef, undef, undef, undef, undef, undef] Try.func57 rfl (by kernel_rfl) ?_
  refine wp_seq ?_
  refine wp_region_lit ?_
  refine ql (.bool false) (by kernel_rfl) (by kernel_rfl) ?_
  refine wpList_nil ?_
  refine x_then ?_
  refine wp_seq ?_
  refine wp_region_lit ?_
  refine ql (.int .i64 c) (by kernel_rfl) (by kernel_rfl) ?_
  by_cases hc1 : c ≥ (0 : Int)
  · skip
    refine ql (.bool true) (by kernel_rfl) (R_bool (p := c ≥ (0 : Int)) (by kernel_rfl) (hc1)) ?_
    refine ql (.bool true) (by kernel_rfl) (by kernel_rfl) ?_
    refine ql (.int .i64 c) (by kernel_rfl) (by kernel_rfl) ?_
    refine ql (.pointer (some ⟨g, 0, none⟩)) (by kernel_rfl) (by kernel_rfl) ?_
    refine qc (f := 78) (args := #[.pointer (some ⟨g, 0, none⟩)]) (by kernel_rfl) (R_call #[.pointer (some ⟨g, 0, none⟩)] Try.func78 (by kernel_rfl) (by kernel_rfl) (by kernel_rfl)) ?_
    refine (mcols g cr R cols rs Ls _ (Mr.of HS (i := 0) (j := 1) (m := 2) rfl rfl rfl) hR hc hl).mono ?_
    rintro e W2 ⟨rfl, H_⟩
    refine ⟨_, rfl, ?_⟩
    replace HS : St W M W2 [blk g [.slice R rs.length cr, .int .i64 cols] 105, row R rs.length cr (cf cpt rs) 98 1, many (rsE 113 110 cols rs)] := HS.join (F := []) (G := []) H_
    clear H_
    by_cases hc3 : c < cols
    · skip
      refine ql (.bool true) (by kernel_rfl) (R_bool (p := c < cols) (by kernel_rfl) (hc3)) ?_
      refine ql (.bool true) (by kernel_rfl) (by kernel_rfl) ?_
      refine ql (.bool true) (by kernel_rfl) (by kernel_rfl) ?_
      refine ql (.pointer (some ⟨g, 0, none⟩)) (by kernel_rfl) (by kernel_rfl) ?_
      refine ql (.int .i64 r) (by kernel_rfl) (by kernel_rfl) ?_
      refine qc (f := 79) (args := #[.pointer (some ⟨g, 0, none⟩), .int .i64 r]) (by kernel_rfl) (R_call #[.pointer (some ⟨g, 0, none⟩), .int .i64 r] Try.func79 (by kernel_rfl) (by kernel_rfl) (by kernel_rfl)) ?_
      by_cases hin : 0 ≤ r ∧ r < rs.length
      · skip
        refine (mown g cr R cols rs Ls r _ _ (St.focus (F := [blk g [.slice R rs.length cr, .int .i64 cols] 105, row R rs.length cr (cf cpt rs) 98 1, many (rsE 113 110 cols rs)]) HS) hR hc hl hin.1 hin.2).mono ?_
        rintro e W4 ⟨rs9, g2, c2, A2, ws2, rfl, H_, hR9, hg9, hl9, hk9⟩
        have hg9s := mget_some hg9
        have hS9 : Rep ws2 cols (rowL Ls r) := hR9.some_ hg9
        refine ⟨_, rfl, ?_⟩
        replace HS : St W M W4 [blk g [.slice R rs9.length cr, .int .i64 cols] 105, row R rs9.length cr (cf cpt rs9) 98 1, many (rsE 113 110 cols rs9)] := HS.join (F := [blk g [.slice R rs.length cr, .int .i64 cols] 105, row R rs.length cr (cf cpt rs) 98 1, many (rsE 113 110 cols rs)]) (G := [blk g [.slice R rs9.length cr, .int .i64 cols] 105, row R rs9.length cr (cf cpt rs9) 98 1, many (rsE 113 110 cols rs9)]) H_
        clear H_
        refine ql (.int .i64 c) (by kernel_rfl) (by kernel_rfl) ?_
        refine qc (f := 71) (args := #[.pointer (some ⟨g2, 0, none⟩), .int .i64 c]) (by kernel_rfl) (R_call #[.pointer (some ⟨g2, 0, none⟩), .int .i64 c] Try.func71 (by kernel_rfl) (by kernel_rfl) (by kernel_rfl)) ?_
        replace HS : St W M W4 [many (rsE 113 110 cols rs9), blk g [.slice R rs9.length cr, .int .i64 cols] 105, row R rs9.length cr (cf cpt rs9) 98 1] := HS.perm (perm_ [2, 0, 1] (by kernel_rfl) rfl)
        replace HS : St W M W4 [blk g2 [.slice A2 ws2.length c2, .int .i64 cols] 113, row A2 ws2.length c2 (ci .u64 ws2) 110 1, many (rsE 113 110 cols (rs9.eraseIdx r.toNat)), blk g [.slice R rs9.length cr, .int .i64 cols] 105, row R rs9.length cr (cf cpt rs9) 98 1] := HS.takeE (x := some (g2, A2, c2, ws2)) hg9s.2.2
        refine (daddu g2 c2 A2 ws2 cols (rowL Ls r) c _ _ (St.focus (F := [blk g2 [.slice A2 ws2.length c2, .int .i64 cols] 113, row A2 ws2.length c2 (ci .u64 ws2) 110 1]) HS) hS9 (by omega)).mono ?_
        rintro e W5 ⟨ws3, rfl, H_, hR3⟩
        refine ⟨_, rfl, ?_⟩
        replace HS : St W M W5 [blk g2 [.slice A2 ws3.length c2, .int .i64 cols] 113, row A2 ws3.length c2 (ci .u64 ws3) 110 1, many (rsE 113 110 cols (rs9.eraseIdx r.toNat)), blk g [.slice R rs9.length cr, .int .i64 cols] 105, row R rs9.length cr (cf cpt rs9) 98 1] := HS.join (F := [blk g2 [.slice A2 ws2.length c2, .int .i64 cols] 113, row A2 ws2.length c2 (ci .u64 ws2) 110 1]) (G := [blk g2 [.slice A2 ws3.length c2, .int .i64 cols] 113, row A2 ws3.length c2 (ci .u64 ws3) 110 1]) H_
        clear H_
        refine ql (.bool (addB cols (rowL Ls r) c)) (by kernel_rfl) (by kernel_rfl) ?_
        refine ql (.bool (addB cols (rowL Ls r) c)) (by kernel_rfl) (by kernel_rfl) ?_
        refine wpList_nil ?_
        refine x_then ?_
        refine wp_ret ?_
        refine ret_ (.bool (addB cols (rowL Ls r) c)) (by kernel_rfl) ?_
        replace HS : St W M W5 [many (rsE 113 110 cols (rs9.set r.toNat (some (g2, A2, c2, ws3)))), blk g [.slice R rs9.length cr, .int .i64 cols] 105, row R rs9.length cr (cf cpt rs9) 98 1] := St.giveE (y := (some (g2, A2, c2, ws3))) (by omega) HS
        replace HS : St W M W5 [blk g [.slice R rs9.length cr, .int .i64 cols] 105, row R rs9.length cr (cf cpt rs9) 98 1, many (rsE 113 110 cols (rs9.set r.toNat (some (g2, A2, c2, ws3))))] := HS.perm (perm_ [1, 2, 0] (by kernel_rfl) rfl)
        have hlq : rs9.length = (rs9.set r.toNat (some (g2, A2, c2, ws3))).length := by rw [List.length_set]
        rw [hlq] at HS
        have ha := addM_in (Ls := Ls) (cols := cols) (r := r) (c := c) hin.1 (by omega)
        have hcf : cf cpt rs9 = cf cpt (rs9.set r.toNat (some (g2, A2, c2, ws3))) := cpt_set hg9s.2.2
        rw [hcf] at HS
        exact ⟨_, by rw [ha.2], HS, by rw [ha.1]; exact hR9.set_ (y := (g2, A2, c2, ws3)) hR3, by rw [List.length_set]; exact hl9⟩
      · skip
        refine (mown_o g cr R cols rs Ls r _ _ (St.focus (F := [blk g [.slice R rs.length cr, .int .i64 cols] 105, row R rs.length cr (cf cpt rs) 98 1, many (rsE 113 110 cols rs)]) HS) hR hc hl (by omega)).mono ?_
        rintro e W6 ⟨rfl, H_⟩
        refine ⟨_, rfl, ?_⟩
        replace HS : St W M W6 [blk g [.slice R rs.length cr, .int .i64 cols] 105, row R rs.length cr (cf cpt rs) 98 1, many (rsE 113 110 cols rs)] := HS.join (F := [blk g [.slice R rs.length cr, .int .i64 cols] 105, row R rs.length cr (cf cpt rs) 98 1, many (rsE 113 110 cols rs)]) (G := [blk g [.slice R rs.length cr, .int .i64 cols] 105, row R rs.length cr (cf cpt rs) 98 1, many (rsE 113 110 cols rs)]) H_
        clear H_
        refine ql (.int .i64 c) (by kernel_rfl) (by kernel_rfl) ?_
        refine qc (f := 71) (args := #[.pointer none, .int .i64 c]) (by kernel_rfl) (R_call #[.pointer none, .int .i64 c] Try.func71 (by kernel_rfl) (by kernel_rfl) (by kernel_rfl)) ?_
        refine (dadd_nil _ _).mono ?_
        rintro e W7 ⟨rfl, H_⟩
        refine ⟨_, rfl, ?_⟩
        replace HS : St W M W7 [blk g [.slice R rs.length cr, .int .i64 cols] 105, row R rs.length cr (cf cpt rs) 98 1, many (rsE 113 110 cols rs)] := HS.join (F := []) (G := []) H_
        clear H_
        refine ql (.bool false) (by kernel_rfl) (by kernel_rfl) ?_
        refine ql (.bool false) (by kernel_rfl) (by kernel_rfl) ?_
        refine wpList_nil ?_
        refine x_then ?_
        refine wp_ret ?_
        refine ret_ (.bool false) (by kernel_rfl) ?_
        have ha := addM_r (Ls := Ls) (cols := cols) (r := r) (c := c) (by omega)
        exact ⟨rs, by rw [ha.2], HS, by rw [ha.1]; exact hR, rfl⟩
    · skip
      refine ql (.bool false) (by kernel_rfl) (R_nbool (p := c < cols) (by kernel_rfl) (hc3)) ?_
      refine ql (.bool false) (by kernel_rfl) (by kernel_rfl) ?_
      refine ql (.bool false) (by kernel_rfl) (by kernel_rfl) ?_
      refine qln (by kernel_rfl) ?_
      refine qln (by kernel_rfl) ?_
      refine qln (by kernel_rfl) ?_
      refine qln (by kernel_rfl) ?_
      refine qln (by kernel_rfl) ?_
      refine ql (.bool false) (by kernel_rfl) (by kernel_rfl) ?_
      refine ql (.bool false) (by kernel_rfl) (by kernel_rfl) ?_
      refine wpList_nil ?_
      refine x_then ?_
      refine wp_ret ?_
      refine ret_ (.bool false) (by kernel_rfl) ?_
      have ha := addM_c (Ls := Ls) (cols := cols) (r := r) (c := c) (by omega)
      exact ⟨rs, by rw [ha.2], HS, by rw [ha.1]; exact hR, rfl⟩
  · skip
    refine ql (.bool false) (by kernel_rfl) (R_nbool (p := c ≥ (0 : Int)) (by kernel_rfl) (hc1)) ?_
    refine ql (.bool false) (by kernel_rfl) (by kernel_rfl) ?_
    refine qln (by kernel_rfl) ?_
    refine qln (by kernel_rfl) ?_
    refine qln (by kernel_rfl) ?_
    refine qln (by kernel_rfl) ?_
    refine ql (.bool false) (by kernel_rfl) (by kernel_rfl) ?_
    refine ql (.bool false) (by kernel_rfl) (by kernel_rfl) ?_
    refine qln (by kernel_rfl) ?_
    refine qln (by kernel_rfl) ?_
    refine qln (by kernel_rfl) ?_
    refine qln (by kernel_rfl) ?_
    refine qln (by kernel_rfl) ?_
    refine ql (.bool false) (by kernel_rfl) (by kernel_rfl) ?_
    refine ql (.bool false) (by kernel_rfl) (by kernel_rfl) ?_
    refine wpList_nil ?_
    refine x_then ?_
    refine wp_ret ?_
    refine ret_ (.bool false) (by kernel_rfl) ?_
    have ha := addM_c (Ls := Ls) (cols := cols) (r := r) (c := c) (by omega)
    exact ⟨rs, by rw [ha.2], HS, by rw [ha.1]; exact hR, rfl⟩

set_option maxRecDepth 100000 in
set_option maxHeartbeats 1000000 in
theorem dor_self (g c : Nat) (A : Option Addr) (ws : List Int) (n : Int) (L : List Int) (W : World) (M : Nat → Prop) (HS : St W M W [blk g [.slice A ws.length c, .int .i64 n] 113, row A ws.length c (ci .u64 ws) 110 1]) (hR : Rep ws n L) (hn : n ≤ 1048576) : Calls Try.prog 92 #[.pointer (some ⟨g, 0, none⟩), .pointer (some ⟨g, 0, none⟩)] W fun e W' => e = .returned (.bool false) ∧ St W M W' [blk g [.slice A ws.length c, .int .i64 n] 113, row A ws.length c (ci .u64 ws) 110 1] := by
  have hwl := hR.len
  have hrc := HS.rcap (i := 1) rfl
  refine calls_enter ((.pointer (some ⟨g, 0, none⟩)) :: (.pointer (some ⟨g, 0, none⟩)) :: undef :: undef :: undef :: undef :: undef :: undef :: undef :: undef :: undef :: undef :: undef :: undef :: undef :: undef :: undef :: undef :: undef :: undef :: undef :: undef :: undef :: undef :: undef :: undef :: undef :: undef :: undef :: undef :: undef :: undef :: undef :: undef :: undef :: undef :: undef :: undef :: undef :: undef :: undef :: undef :: undef :: undef :: undef :: undef :: undef :: undef :: undef :: undef :: undef :: undef :: undef :: undef :: undef :: undef :: undef :: undef :: undef :: []) Try.func92 rfl (by kernel_rfl) ?_
  refine wp_seq ?_
  refine wp_region_lit ?_
  refine ql (.bool false) (by kernel_rfl) (by kernel_rfl) ?_
  refine wpList_nil ?_
  refine x_then ?_
  refine wp_seq ?_
  refine wp_seq ?_
  refine rg_still HS 16 (by kernel_rfl) (by kernel_rfl) ?_
  intro W1 H_ HK_
  simp only [List.take_succ_cons, List.take_zero, List.drop_succ_cons, List.drop_zero]
  replace HS : St W M W1 [blk g [.slice A ws.length c, .int .i64 n] 113, row A ws.length c (ci .u64 ws) 110 1] := H_
  clear H_
  clear HK_
  refine qs (.pointer (some ⟨g, 0, none⟩)) (by kernel_rfl) (by kernel_rfl) ?_
  refine qs (.bool false) (by kernel_rfl) (by kernel_rfl) ?_
  refine qs (.bool false) (by kernel_rfl) (by kernel_rfl) ?_
  refine qs (.pointer (some ⟨g, 0, none⟩)) (by kernel_rfl) (by kernel_rfl) ?_
  refine qs (.bool false) (by kernel_rfl) (by kernel_rfl) ?_
  refine qs (.bool false) (by kernel_rfl) (by kernel_rfl) ?_
  refine qs (.bool false) (by kernel_rfl) (by kernel_rfl) ?_
  refine qs (.pointer (some ⟨g, 0, none⟩)) (by kernel_rfl) (by kernel_rfl) ?_
  refine qs (.pointer (some ⟨g, 0, none⟩)) (by kernel_rfl) (by kernel_rfl) ?_
  refine qs (.pointer (some ⟨g, 1, none⟩)) (by kernel_rfl) (by kernel_rfl) ?_
  refine qs (.int .i64 n) (by kernel_rfl) (R_load (p := ⟨g, 1, none⟩) (by kernel_rfl) (by kernel_rfl) (by kernel_rfl) (HS.cell (i := 0) (j := 1) rfl rfl)) ?_
  refine qs (.pointer (some ⟨g, 0, none⟩)) (by kernel_rfl) (by kernel_rfl) ?_
  refine qs (.pointer (some ⟨g, 0, none⟩)) (by kernel_rfl) (by kernel_rfl) ?_
  refine qs (.pointer (some ⟨g, 1, none⟩)) (by kernel_rfl) (by kernel_rfl) ?_
  refine qs (.int .i64 n) (by kernel_rfl) (R_load (p := ⟨g, 1, none⟩) (by kernel_rfl) (by kernel_rfl) (by kernel_rfl) (HS.cell (i := 0) (j := 1) rfl rfl)) ?_
  refine qs (.bool false) (by kernel_rfl) (R_beq (b := (n != n)) (by kernel_rfl) (bne_f (by omega))) ?_
  refine wpStill_nil ?_
  refine ql (.bool false) (by kernel_rfl) (by kernel_rfl) ?_
  refine wpList_nil ?_
  refine x_then ?_
  refine wp_cond_false (by kernel_rfl) ?_
  refine wp_skip ?_
  refine x_then ?_
  refine wp_seq ?_
  refine wp_region_lit ?_
  refine ql (.int .u64 0) (by kernel_rfl) (by kernel_rfl) ?_
  refine wpList_nil ?_
  refine x_then ?_
  refine wp_seq ?_
  refine wp_seq ?_
  refine wp_region_lit ?_
  refine ql (.pointer (some ⟨g, 0, none⟩)) (by kernel_rfl) (by kernel_rfl) ?_
  refine ql (.pointer (some ⟨g, 0, none⟩)) (by kernel_rfl) (by kernel_rfl) ?_
  refine ql (.pointer (some ⟨g, 0, none⟩)) (by kernel_rfl) (by kernel_rfl) ?_
  refine ql (.slice A ws.length c) (by kernel_rfl) (R_load (p := ⟨g, 0, none⟩) (by kernel_rfl) (by kernel_rfl) (by kernel_rfl) (HS.cell (i := 0) (j := 0) rfl rfl)) ?_
  refine ql (.int .i64 (ws.length : Int)) (by kernel_rfl) (by kernel_rfl) ?_
  refine ql (.int .i64 0) (by kernel_rfl) (by kernel_rfl) ?_
  refine wpList_nil ?_
  refine x_then ?_
  refine wp_block ?_
  refine wp_loop_ghost (fun kq a' w' => ∃ (J2 : Nat → Value) (k : Int) , a' = Fr ((.pointer (some ⟨g, 0, none⟩)) :: (.pointer (some ⟨g, 0, none⟩)) :: undef :: undef :: (.bool false) :: (.int .u64 0) :: ((J2 6)) :: ((J2 7)) :: (.pointer (some ⟨g, 0, none⟩)) :: (.bool false) :: (.bool false) :: (.pointer (some ⟨g, 0, none⟩)) :: (.bool false) :: (.bool false) :: (.bool false) :: (.pointer (some ⟨g, 0, none⟩)) :: (.pointer (some ⟨g, 0, none⟩)) :: (.pointer (some ⟨g, 1, none⟩)) :: (.int .i64 n) :: (.pointer (some ⟨g, 0, none⟩)) :: (.pointer (some ⟨g, 0, none⟩)) :: (.pointer (some ⟨g, 1, none⟩)) :: (.int .i64 n) :: (.bool false) :: (.bool false) :: (.pointer (some ⟨g, 0, none⟩)) :: (.pointer (some ⟨g, 0, none⟩)) :: (.pointer (some ⟨g, 0, none⟩)) :: (.slice A ws.length c) :: (.int .i64 (ws.length : Int)) :: (.int .i64 k) :: ((J2 31)) :: ((J2 32)) :: ((J2 33)) :: ((J2 34)) :: ((J2 35)) :: ((J2 36)) :: ((J2 37)) :: ((J2 38)) :: ((J2 39)) :: ((J2 40)) :: ((J2 41)) :: ((J2 42)) :: ((J2 43)) :: ((J2 44)) :: ((J2 45)) :: ((J2 46)) :: ((J2 47)) :: ((J2 48)) :: ((J2 49)) :: ((J2 50)) :: ((J2 51)) :: ((J2 52)) :: ((J2 53)) :: ((J2 54)) :: ((J2 55)) :: ((J2 56)) :: undef :: undef :: []) ∧ kq = (ws.length - (k).toNat) ∧ (0 ≤ k) ∧ (k ≤ ws.length) ∧ St W M w' [blk g [.slice A ws.length c, .int .i64 n] 113, row A ws.length c (ci .u64 ws) 110 1]) (ws.length - ((0 : Int)).toNat) ⟨(fun k_ : Nat => List.getD ((.pointer (some ⟨g, 0, none⟩)) :: (.pointer (some ⟨g, 0, none⟩)) :: undef :: undef :: (.bool false) :: (.int .u64 0) :: undef :: undef :: (.pointer (some ⟨g, 0, none⟩)) :: (.bool false) :: (.bool false) :: (.pointer (some ⟨g, 0, none⟩)) :: (.bool false) :: (.bool false) :: (.bool false) :: (.pointer (some ⟨g, 0, none⟩)) :: (.pointer (some ⟨g, 0, none⟩)) :: (.pointer (some ⟨g, 1, none⟩)) :: (.int .i64 n) :: (.pointer (some ⟨g, 0, none⟩)) :: (.pointer (some ⟨g, 0, none⟩)) :: (.pointer (some ⟨g, 1, none⟩)) :: (.int .i64 n) :: (.bool false) :: (.bool false) :: (.pointer (some ⟨g, 0, none⟩)) :: (.pointer (some ⟨g, 0, none⟩)) :: (.pointer (some ⟨g, 0, none⟩)) :: (.slice A ws.length c) :: (.int .i64 (ws.length : Int)) :: (.int .i64 0) :: undef :: undef :: undef :: undef :: undef :: undef :: undef :: undef :: undef :: undef :: undef :: undef :: undef :: undef :: undef :: undef :: undef :: undef :: undef :: undef :: undef :: undef :: undef :: undef :: undef :: undef :: undef :: undef :: []) k_ undef), (0 : Int), congrArg Fr (by kernel_rfl), rfl, by omega, by omega, HS⟩ ?_
  clear HS
  intro kq3 a' W4 hrel
  obtain ⟨J2, k, rfl, hk, k0, k1, HS⟩ := hrel
  refine wp_seq ?_
  refine wp_region_lit ?_
  by_cases hc5 : k < (ws.length : Int)
  · skip
    refine ql (.bool true) (by kernel_rfl) (R_bool (p := k < (ws.length : Int)) (by kernel_rfl) (hc5)) ?_
    refine wpList_nil ?_
    refine x_then ?_
    refine wp_seq ?_
    refine wp_cond_true (by kernel_rfl) ?_
    refine wp_skip ?_
    refine x_then ?_
    refine wp_seq ?_
    refine wp_block ?_
    refine wp_seq ?_
    refine wp_region_lit ?_
    refine ql (.int .i64 k) (by kernel_rfl) (by kernel_rfl) ?_
    obtain ⟨g6, rfl⟩ := St.rsome HS (i := 1) rfl (by omega)
    refine ql (.pointer (some ⟨g6, k.toNat, none⟩)) (by kernel_rfl) (R_index1 (k := .i64) (g := g6) (n := ws.length) (c := c) (i := k) (by kernel_rfl) (by kernel_rfl) Try.underlying111 (by kernel_rfl) (by omega) (by omega)) ?_
    refine ql (.int .u64 (rdI ws k)) (by kernel_rfl) (R_load (p := ⟨g6, k.toNat, none⟩) (by kernel_rfl) (by kernel_rfl) (by kernel_rfl) (HS.rcell (i := 1) rfl (ci_rd (i := k) (by omega) (by omega)))) ?_
    refine ql (.int .i64 k) (by kernel_rfl) (by kernel_rfl) ?_
    refine ql (.int .u64 (rdI ws k)) (by kernel_rfl) (by kernel_rfl) ?_
    refine wpList_nil ?_
    refine x_then ?_
    refine wp_seq ?_
    refine wp_region_lit ?_
    refine ql (.int .u64 0) (by kernel_rfl) (by kernel_rfl) ?_
    refine ql (.int .u64 (rdI ws k)) (by kernel_rfl) (by kernel_rfl) ?_
    refine ql (.pointer (some ⟨g, 0, none⟩)) (by kernel_rfl) (by kernel_rfl) ?_
    refine ql (.pointer (some ⟨g, 0, none⟩)) (by kernel_rfl) (by kernel_rfl) ?_
    refine ql (.pointer (some ⟨g, 0, none⟩)) (by kernel_rfl) (by kernel_rfl) ?_
    refine ql (.slice (some ⟨g6, 0, none⟩) ws.length c) (by kernel_rfl) (R_load (p := ⟨g, 0, none⟩) (by kernel_rfl) (by kernel_rfl) (by kernel_rfl) (HS.cell (i := 0) (j := 0) rfl rfl)) ?_
    refine ql (.int .i64 k) (by kernel_rfl) (by kernel_rfl) ?_
    refine ql (.pointer (some ⟨g6, k.toNat, none⟩)) (by kernel_rfl) (R_index1 (k := .i64) (g := g6) (n := ws.length) (c := c) (i := k) (by kernel_rfl) (by kernel_rfl) Try.underlying111 (by kernel_rfl) (by omega) (by omega)) ?_
    refine ql (.int .u64 (rdI ws k)) (by kernel_rfl) (R_load (p := ⟨g6, k.toNat, none⟩) (by kernel_rfl) (by kernel_rfl) (by kernel_rfl) (HS.rcell (i := 1) rfl (ci_rd (i := k) (by omega) (by omega)))) ?_
    refine ql (.int .u64 (anW (rdI ws k) (rdI ws k))) (by kernel_rfl) (R_an (by kernel_rfl) (by kernel_rfl) (hR.rd k0 (by omega)) (hR.rd k0 (by omega))) ?_
    refine ql (.int .u64 (orW 0 (anW (rdI ws k) (rdI ws k)))) (by kernel_rfl) (R_or (by kernel_rfl) (by kernel_rfl) (u_lit 0 (by decide)) (u_an (hR.rd k0 (by omega)) (hR.rd k0 (by omega)))) ?_
    refine ql (.int .u64 (orW 0 (anW (rdI ws k) (rdI ws k)))) (by kernel_rfl) (by kernel_rfl) ?_
    refine wpList_nil ?_
    refine x_then ?_
    refine wp_region_lit ?_
    refine ql (.pointer (some ⟨g, 0, none⟩)) (by kernel_rfl) (by kernel_rfl) ?_
    refine ql (.pointer (some ⟨g, 0, none⟩)) (by kernel_rfl) (by kernel_rfl) ?_
    refine ql (.pointer (some ⟨g, 0, none⟩)) (by kernel_rfl) (by kernel_rfl) ?_
    refine ql (.slice (some ⟨g6, 0, none⟩) ws.length c) (by kernel_rfl) (R_load (p := ⟨g, 0, none⟩) (by kernel_rfl) (by kernel_rfl) (by kernel_rfl) (HS.cell (i := 0) (j := 0) rfl rfl)) ?_
    refine ql (.int .i64 k) (by kernel_rfl) (by kernel_rfl) ?_
    refine ql (.pointer (some ⟨g6, k.toNat, none⟩)) (by kernel_rfl) (R_index1 (k := .i64) (g := g6) (n := ws.length) (c := c) (i := k) (by kernel_rfl) (by kernel_rfl) Try.underlying111 (by kernel_rfl) (by omega) (by omega)) ?_
    refine ql (.int .u64 (rdI ws k)) (by kernel_rfl) (R_load (p := ⟨g6, k.toNat, none⟩) (by kernel_rfl) (by kernel_rfl) (by kernel_rfl) (HS.rcell (i := 1) rfl (ci_rd (i := k) (by omega) (by omega)))) ?_
    refine ql (.int .u64 (rdI ws k)) (by kernel_rfl) (by kernel_rfl) ?_
    refine ql (.int .u64 (orW (rdI ws k) (rdI ws k))) (by kernel_rfl) (R_or (by kernel_rfl) (by kernel_rfl) (hR.rd k0 (by omega)) (hR.rd k0 (by omega))) ?_
    refine ql (.pointer (some ⟨g6, k.toNat, none⟩)) (by kernel_rfl) (R_index1 (k := .i64) (g := g6) (n := ws.length) (c := c) (i := k) (by kernel_rfl) (by kernel_rfl) Try.underlying111 (by kernel_rfl) (by omega) (by omega)) ?_
    refine kr (v := .int .u64 (orW (rdI ws k) (rdI ws k))) HS 1 rfl (k.toNat) [.int .u64 (orW (rdI ws k) (rdI ws k))] (by kernel_rfl) (by kernel_rfl) (by kernel_rfl) (by kernel_rfl) (by kernel_rfl) (one_ (by kernel_rfl)) (by rw [ci_len]; first | omega | (simp only [List.length_singleton]; omega)) rfl ?_
    intro W7 H_
    obtain ⟨xs8, xs8_⟩ : ∃ z_ : List Int, z_ = (ws).set k.toNat (orW (rdI ws k) (rdI ws k)) := ⟨_, rfl⟩
    replace HS : St W M W7 [blk g [.slice (some ⟨g6, 0, none⟩) ws.length c, .int .i64 n] 113, row (some ⟨g6, 0, none⟩) ws.length c (ci .u64 xs8) 110 1] := H_.cast_ (by rw [xs8_, ← ci_set]; rfl)
    clear H_
    have xs8l : xs8.length = ws.length := by rw [xs8_, List.length_set]; first | done | omega
    refine wpList_nil ?_
    refine x_inb ?_
    refine x_then ?_
    refine wp_region_lit ?_
    refine ql (.int .i64 (k + 1)) (by kernel_rfl) (R_int (by kernel_rfl) (w64 (by omega))) ?_
    refine ql (.int .i64 (k + 1)) (by kernel_rfl) (by kernel_rfl) ?_
    refine wpList_nil ?_
    have hqw : xs8 = ws := by rw [xs8_, orW_self (hR.rd k0 (by omega))]; exact set_rd k0 (by omega)
    rw [hqw] at HS
    have hch : orW 0 (anW (rdI ws k) (rdI ws k)) = 0 := by rw [anW_self (hR.rd k0 (by omega)), orW_self (w := 0) (u_lit 0 (by decide))]
    rw [hch]
    refine x_then ?_
    exact ⟨ws.length - (k + 1).toNat, by omega, (fun k_ : Nat => List.getD ((.pointer (some ⟨g, 0, none⟩)) :: (.pointer (some ⟨g, 0, none⟩)) :: undef :: undef :: (.bool false) :: (.int .u64 0) :: (.int .i64 k) :: (.int .u64 (rdI ws k)) :: (.pointer (some ⟨g, 0, none⟩)) :: (.bool false) :: (.bool false) :: (.pointer (some ⟨g, 0, none⟩)) :: (.bool false) :: (.bool false) :: (.bool false) :: (.pointer (some ⟨g, 0, none⟩)) :: (.pointer (some ⟨g, 0, none⟩)) :: (.pointer (some ⟨g, 1, none⟩)) :: (.int .i64 n) :: (.pointer (some ⟨g, 0, none⟩)) :: (.pointer (some ⟨g, 0, none⟩)) :: (.pointer (some ⟨g, 1, none⟩)) :: (.int .i64 n) :: (.bool false) :: (.bool false) :: (.pointer (some ⟨g, 0, none⟩)) :: (.pointer (some ⟨g, 0, none⟩)) :: (.pointer (some ⟨g, 0, none⟩)) :: (.slice (some ⟨g6, 0, none⟩) ws.length c) :: (.int .i64 (ws.length : Int)) :: (.int .i64 (k + 1)) :: (.bool true) :: (.int .i64 k) :: (.pointer (some ⟨g6, k.toNat, none⟩)) :: (.int .u64 (rdI ws k)) :: (.int .u64 0) :: (.int .u64 (rdI ws k)) :: (.pointer (some ⟨g, 0, none⟩)) :: (.pointer (some ⟨g, 0, none⟩)) :: (.pointer (some ⟨g, 0, none⟩)) :: (.slice (some ⟨g6, 0, none⟩) ws.length c) :: (.int .i64 k) :: (.pointer (some ⟨g6, k.toNat, none⟩)) :: (.int .u64 (rdI ws k)) :: (.int .u64 (anW (rdI ws k) (rdI ws k))) :: (.int .u64 0) :: (.pointer (some ⟨g, 0, none⟩)) :: (.pointer (some ⟨g, 0, none⟩)) :: (.pointer (some ⟨g, 0, none⟩)) :: (.slice (some ⟨g6, 0, none⟩) ws.length c) :: (.int .i64 k) :: (.pointer (some ⟨g6, k.toNat, none⟩)) :: (.int .u64 (rdI ws k)) :: (.int .u64 (rdI ws k)) :: (.int .u64 (orW (rdI ws k) (rdI ws k))) :: (.pointer (some ⟨g6, k.toNat, none⟩)) :: (.int .i64 (k + 1)) :: undef :: undef :: []) k_ undef), k + 1, congrArg Fr (by kernel_rfl), rfl, by omega, by omega, HS⟩
  · skip
    refine ql (.bool false) (by kernel_rfl) (R_nbool (p := k < (ws.length : Int)) (by kernel_rfl) (hc5)) ?_
    refine wpList_nil ?_
    refine x_then ?_
    refine wp_seq ?_
    refine wp_cond_false (by kernel_rfl) ?_
    refine wp_exit ?_
    refine x_thenE ?_
    refine x_thenE ?_
    refine x_hit ?_
    refine x_then ?_
    refine wp_seq ?_
    refine wp_region_lit ?_
    refine ql (.int .u64 0) (by kernel_rfl) (by kernel_rfl) ?_
    refine ql (.bool false) (by kernel_rfl) (R_beq (b := ((0 : Int) != 0)) (by kernel_rfl) (by decide)) ?_
    refine ql (.bool false) (by kernel_rfl) (by kernel_rfl) ?_
    refine wpList_nil ?_
    refine x_then ?_
    refine wp_ret ?_
    refine ret_ (.bool false) (by kernel_rfl) ?_
    exact ⟨rfl, HS⟩

set_option maxRecDepth 100000 in
set_option maxHeartbeats 1000000 in
theorem mor (g cr : Nat) (R : Option Addr) (cols : Int) (rs : List Rw) (Ls : List (List Int)) (r o : Int) (W : World) (M : Nat → Prop) (HS : St W M W [blk g [.slice R rs.length cr, .int .i64 cols] 105, row R rs.length cr (cf cpt rs) 98 1, many (rsE 113 110 cols rs)]) (hR : MRep rs cols Ls) (hc : cols ≤ 65536) (hl : rs.length ≤ 65536) : Calls Try.prog 82 #[.pointer (some ⟨g, 0, none⟩), .int .i64 r, .int .i64 o] W fun e W' => ∃ rs', e = .returned (.bool (orMB Ls r o)) ∧ St W M W' [blk g [.slice R rs'.length cr, .int .i64 cols] 105, row R rs'.length cr (cf cpt rs') 98 1, many (rsE 113 110 cols rs')] ∧ MRep rs' cols (orM Ls r o) ∧ rs'.length = rs.length := by
  have h0c := hR.c0
  have hlen := hR.len
  refine calls_enter [.pointer (some ⟨g, 0, none⟩), .int .i64 r, .int .i64 o, undef, undef, undef, undef, undef, undef, undef, undef, undef, undef, undef, undef, undef, undef, undef, undef, undef] Try.func82 rfl (by kernel_rfl) ?_
  refine wp_seq ?_
  refine wp_region_lit ?_
  refine ql (.bool false) (by kernel_rfl) (by kernel_rfl) ?_
  refine wpList_nil ?_
  refine x_then ?_
  refine wp_seq ?_
  refine wp_region_lit ?_
  refine ql (.pointer (some ⟨g, 0, none⟩)) (by kernel_rfl) (by kernel_rfl) ?_
  refine ql (.int .i64 o) (by kernel_rfl) (by kernel_rfl) ?_
  refine qc (f := 83) (args := #[.pointer (some ⟨g, 0, none⟩), .int .i64 o]) (by kernel_rfl) (R_call #[.pointer (some ⟨g, 0, none⟩), .int .i64 o] Try.func83 (by kernel_rfl) (by kernel_rfl) (by kernel_rfl)) ?_
  rcases hx : mget rs o with _ | ⟨g1, A1, c1, ws1⟩
  · skip
    refine (mrow_n g cr R cols rs Ls o _ (Mr.of HS (i := 0) (j := 1) (m := 2) rfl rfl rfl) hR hc hl hx).mono ?_
    rintro e W1 ⟨rfl, H_⟩
    refine ⟨_, rfl, ?_⟩
    replace HS : St W M W1 [blk g [.slice R rs.length cr, .int .i64 cols] 105, row R rs.length cr (cf cpt rs) 98 1, many (rsE 113 110 cols rs)] := HS.join (F := []) (G := []) H_
    clear H_
    refine ql (.pointer none) (by kernel_rfl) (by kernel_rfl) ?_
    refine wpList_nil ?_
    refine x_then ?_
    refine wp_seq ?_
    refine wp_region_lit ?_
    refine ql (.pointer none) (by kernel_rfl) (by kernel_rfl) ?_
    refine ql (.bool false) (by kernel_rfl) (by kernel_rfl) ?_
    refine ql (.bool false) (by kernel_rfl) (by kernel_rfl) ?_
    refine qln (by kernel_rfl) ?_
    refine qln (by kernel_rfl) ?_
    refine qln (by kernel_rfl) ?_
    refine qln (by kernel_rfl) ?_
    refine qln (by kernel_rfl) ?_
    refine ql (.bool false) (by kernel_rfl) (by kernel_rfl) ?_
    refine ql (.bool false) (by kernel_rfl) (by kernel_rfl) ?_
    refine wpList_nil ?_
    refine x_then ?_
    refine wp_ret ?_
    refine ret_ (.bool false) (by kernel_rfl) ?_
    have ha := orM_o (r := r) (hR.none_ hx)
    exact ⟨rs, by rw [ha.2], HS, by rw [ha.1]; exact hR, rfl⟩
  · skip
    refine (mrow_s g cr R cols rs Ls o g1 c1 A1 ws1 _ (Mr.of HS (i := 0) (j := 1) (m := 2) rfl rfl rfl) hR hc hl hx).mono ?_
    rintro e W2 ⟨rfl, H_⟩
    refine ⟨_, rfl, ?_⟩
    replace HS : St W M W2 [blk g [.slice R rs.length cr, .int .i64 cols] 105, row R rs.length cr (cf cpt rs) 98 1, many (rsE 113 110 cols rs)] := HS.join (F := []) (G := []) H_
    clear H_
    refine ql (.pointer (some ⟨g1, 0, none⟩)) (by kernel_rfl) (by kernel_rfl) ?_
    refine wpList_nil ?_
    refine x_then ?_
    refine wp_seq ?_
    refine wp_region_lit ?_
    refine ql (.pointer (some ⟨g1, 0, none⟩)) (by kernel_rfl) (by kernel_rfl) ?_
    refine ql (.bool true) (by kernel_rfl) (by kernel_rfl) ?_
    refine ql (.bool true) (by kernel_rfl) (by kernel_rfl) ?_
    refine ql (.pointer (some ⟨g, 0, none⟩)) (by kernel_rfl) (by kernel_rfl) ?_
    refine ql (.int .i64 r) (by kernel_rfl) (by kernel_rfl) ?_
    refine qc (f := 79) (args := #[.pointer (some ⟨g, 0, none⟩), .int .i64 r]) (by kernel_rfl) (R_call #[.pointer (some ⟨g, 0, none⟩), .int .i64 r] Try.func79 (by kernel_rfl) (by kernel_rfl) (by kernel_rfl)) ?_
    by_cases hin : 0 ≤ r ∧ r < rs.length
    · skip
      refine (mown g cr R cols rs Ls r _ _ (St.focus (F := [blk g [.slice R rs.length cr, .int .i64 cols] 105, row R rs.length cr (cf cpt rs) 98 1, many (rsE 113 110 cols rs)]) HS) hR hc hl hin.1 hin.2).mono ?_
      rintro e W3 ⟨rs9, g2, c2, A2, ws2, rfl, H_, hR9, hg9, hl9, hk9⟩
      have hg9s := mget_some hg9
      have hS9 : Rep ws2 cols (rowL Ls r) := hR9.some_ hg9
      refine ⟨_, rfl, ?_⟩
      replace HS : St W M W3 [blk g [.slice R rs9.length cr, .int .i64 cols] 105, row R rs9.length cr (cf cpt rs9) 98 1, many (rsE 113 110 cols rs9)] := HS.join (F := [blk g [.slice R rs.length cr, .int .i64 cols] 105, row R rs.length cr (cf cpt rs) 98 1, many (rsE 113 110 cols rs)]) (G := [blk g [.slice R rs9.length cr, .int .i64 cols] 105, row R rs9.length cr (cf cpt rs9) 98 1, many (rsE 113 110 cols rs9)]) H_
      clear H_
      refine ql (.pointer (some ⟨g1, 0, none⟩)) (by kernel_rfl) (by kernel_rfl) ?_
      refine qc (f := 92) (args := #[.pointer (some ⟨g2, 0, none⟩), .pointer (some ⟨g1, 0, none⟩)]) (by kernel_rfl) (R_call #[.pointer (some ⟨g2, 0, none⟩), .pointer (some ⟨g1, 0, none⟩)] Try.func92 (by kernel_rfl) (by kernel_rfl) (by kernel_rfl)) ?_
      have hgo := hk9 o _ hx
      have hgos := mget_some hgo
      have hS1 : Rep ws1 cols (rowL Ls o) := hR9.some_ hgo
      by_cases hro : r = o
      · skip
        have hrc2 := hgo
        rw [← hro, hg9] at hrc2
        obtain ⟨rfl, rfl, rfl, rfl⟩ : g1 = g2 ∧ A1 = A2 ∧ c1 = c2 ∧ ws1 = ws2 := by simpa using hrc2.symm
        skip
        replace HS : St W M W3 [many (rsE 113 110 cols rs9), blk g [.slice R rs9.length cr, .int .i64 cols] 105, row R rs9.length cr (cf cpt rs9) 98 1] := HS.perm (perm_ [2, 0, 1] (by kernel_rfl) rfl)
        replace HS : St W M W3 [blk g1 [.slice A1 ws1.length c1, .int .i64 cols] 113, row A1 ws1.length c1 (ci .u64 ws1) 110 1, many (rsE 113 110 cols (rs9.eraseIdx r.toNat)), blk g [.slice R rs9.length cr, .int .i64 cols] 105, row R rs9.length cr (cf cpt rs9) 98 1] := HS.takeE (x := some (g1, A1, c1, ws1)) hg9s.2.2
        refine (dor_self g1 c1 A1 ws1 cols (rowL Ls r) _ _ (St.focus (F := [blk g1 [.slice A1 ws1.length c1, .int .i64 cols] 113, row A1 ws1.length c1 (ci .u64 ws1) 110 1]) HS) hS9 (by omega)).mono ?_
        rintro e W4 ⟨rfl, H_⟩
        refine ⟨_, rfl, ?_⟩
        replace HS : St W M W4 [blk g1 [.slice A1 ws1.length c1, .int .i64 cols] 113, row A1 ws1.length c1 (ci .u64 ws1) 110 1, many (rsE 113 110 cols (rs9.eraseIdx r.toNat)), blk g [.slice R rs9.length cr, .int .i64 cols] 105, row R rs9.length cr (cf cpt rs9) 98 1] := HS.join (F := [blk g1 [.slice A1 ws1.length c1, .int .i64 cols] 113, row A1 ws1.length c1 (ci .u64 ws1) 110 1]) (G := [blk g1 [.slice A1 ws1.length c1, .int .i64 cols] 113, row A1 ws1.length c1 (ci .u64 ws1) 110 1]) H_
        clear H_
        refine ql (.bool false) (by kernel_rfl) (by kernel_rfl) ?_
        refine ql (.bool false) (by kernel_rfl) (by kernel_rfl) ?_
        refine wpList_nil ?_
        refine x_then ?_
        refine wp_ret ?_
        refine ret_ (.bool false) (by kernel_rfl) ?_
        have ha := orM_in (Ls := Ls) (r := r) (o := o) hin.1 (by omega)
        replace HS : St W M W4 [many (rsE 113 110 cols rs9), blk g [.slice R rs9.length cr, .int .i64 cols] 105, row R rs9.length cr (cf cpt rs9) 98 1] := St.giveS (y := (some (g1, A1, c1, ws1))) hg9s.2.2 HS
        replace HS : St W M W4 [blk g [.slice R rs9.length cr, .int .i64 cols] 105, row R rs9.length cr (cf cpt rs9) 98 1, many (rsE 113 110 cols rs9)] := HS.perm (perm_ [1, 2, 0] (by kernel_rfl) rfl)
        exact ⟨rs9, by rw [ha.2, ← hro, newB_self], HS, by rw [ha.1, ← hro, uni_self, set_rowL hin.1 (by omega)]; exact hR9, hl9⟩
      · skip
        replace HS : St W M W3 [many (rsE 113 110 cols rs9), blk g [.slice R rs9.length cr, .int .i64 cols] 105, row R rs9.length cr (cf cpt rs9) 98 1] := HS.perm (perm_ [2, 0, 1] (by kernel_rfl) rfl)
        replace HS : St W M W3 [blk g2 [.slice A2 ws2.length c2, .int .i64 cols] 113, row A2 ws2.length c2 (ci .u64 ws2) 110 1, many (rsE 113 110 cols (rs9.eraseIdx r.toNat)), blk g [.slice R rs9.length cr, .int .i64 cols] 105, row R rs9.length cr (cf cpt rs9) 98 1] := HS.takeE (x := some (g2, A2, c2, ws2)) hg9s.2.2
        have hne : r.toNat ≠ o.toNat := by omega
        have heg := erase_get hne hgos.2.2
        replace HS : St W M W3 [many (rsE 113 110 cols (rs9.eraseIdx r.toNat)), blk g2 [.slice A2 ws2.length c2, .int .i64 cols] 113, row A2 ws2.length c2 (ci .u64 ws2) 110 1, blk g [.slice R rs9.length cr, .int .i64 cols] 105, row R rs9.length cr (cf cpt rs9) 98 1] := HS.perm (perm_ [2, 0, 1, 3, 4] (by kernel_rfl) rfl)
        replace HS : St W M W3 [blk g1 [.slice A1 ws1.length c1, .int .i64 cols] 113, row A1 ws1.length c1 (ci .u64 ws1) 110 1, many (rsE 113 110 cols ((rs9.eraseIdx r.toNat).eraseIdx (eix r.toNat o.toNat))), blk g2 [.slice A2 ws2.length c2, .int .i64 cols] 113, row A2 ws2.length c2 (ci .u64 ws2) 110 1, blk g [.slice R rs9.length cr, .int .i64 cols] 105, row R rs9.length cr (cf cpt rs9) 98 1] := HS.takeE (x := some (g1, A1, c1, ws1)) heg
        replace HS : St W M W3 [blk g2 [.slice A2 ws2.length c2, .int .i64 cols] 113, row A2 ws2.length c2 (ci .u64 ws2) 110 1, blk g1 [.slice A1 ws1.length c1, .int .i64 cols] 113, row A1 ws1.length c1 (ci .u64 ws1) 110 1, many (rsE 113 110 cols ((rs9.eraseIdx r.toNat).eraseIdx (eix r.toNat o.toNat))), blk g [.slice R rs9.length cr, .int .i64 cols] 105, row R rs9.length cr (cf cpt rs9) 98 1] := HS.perm (perm_ [3, 4, 0, 1, 2, 5, 6] (by kernel_rfl) rfl)
        refine (dor g2 c2 A2 ws2 cols g1 c1 A1 ws1 (rowL Ls r) (rowL Ls o) _ _ (St.focus (F := [blk g2 [.slice A2 ws2.length c2, .int .i64 cols] 113, row A2 ws2.length c2 (ci .u64 ws2) 110 1, blk g1 [.slice A1 ws1.length c1, .int .i64 cols] 113, row A1 ws1.length c1 (ci .u64 ws1) 110 1]) HS) hS9 hS1 (by omega)).mono ?_
        rintro e W5 ⟨ws3, rfl, H_, hR3⟩
        refine ⟨_, rfl, ?_⟩
        replace HS : St W M W5 [blk g2 [.slice A2 ws3.length c2, .int .i64 cols] 113, row A2 ws3.length c2 (ci .u64 ws3) 110 1, blk g1 [.slice A1 ws1.length c1, .int .i64 cols] 113, row A1 ws1.length c1 (ci .u64 ws1) 110 1, many (rsE 113 110 cols ((rs9.eraseIdx r.toNat).eraseIdx (eix r.toNat o.toNat))), blk g [.slice R rs9.length cr, .int .i64 cols] 105, row R rs9.length cr (cf cpt rs9) 98 1] := HS.join (F := [blk g2 [.slice A2 ws2.length c2, .int .i64 cols] 113, row A2 ws2.length c2 (ci .u64 ws2) 110 1, blk g1 [.slice A1 ws1.length c1, .int .i64 cols] 113, row A1 ws1.length c1 (ci .u64 ws1) 110 1]) (G := [blk g2 [.slice A2 ws3.length c2, .int .i64 cols] 113, row A2 ws3.length c2 (ci .u64 ws3) 110 1, blk g1 [.slice A1 ws1.length c1, .int .i64 cols] 113, row A1 ws1.length c1 (ci .u64 ws1) 110 1]) H_
        clear H_
        refine ql (.bool (newB (rowL Ls r) (rowL Ls o))) (by kernel_rfl) (by kernel_rfl) ?_
        refine ql (.bool (newB (rowL Ls r) (rowL Ls o))) (by kernel_rfl) (by kernel_rfl) ?_
        refine wpList_nil ?_
        refine x_then ?_
        refine wp_ret ?_
        refine ret_ (.bool (newB (rowL Ls r) (rowL Ls o))) (by kernel_rfl) ?_
        have ha := orM_in (Ls := Ls) (r := r) (o := o) hin.1 (by omega)
        replace HS : St W M W5 [blk g1 [.slice A1 ws1.length c1, .int .i64 cols] 113, row A1 ws1.length c1 (ci .u64 ws1) 110 1, many (rsE 113 110 cols ((rs9.eraseIdx r.toNat).eraseIdx (eix r.toNat o.toNat))), blk g2 [.slice A2 ws3.length c2, .int .i64 cols] 113, row A2 ws3.length c2 (ci .u64 ws3) 110 1, blk g [.slice R rs9.length cr, .int .i64 cols] 105, row R rs9.length cr (cf cpt rs9) 98 1] := HS.perm (perm_ [2, 3, 4, 0, 1, 5, 6] (by kernel_rfl) rfl)
        replace HS : St W M W5 [many (rsE 113 110 cols (rs9.eraseIdx r.toNat)), blk g2 [.slice A2 ws3.length c2, .int .i64 cols] 113, row A2 ws3.length c2 (ci .u64 ws3) 110 1, blk g [.slice R rs9.length cr, .int .i64 cols] 105, row R rs9.length cr (cf cpt rs9) 98 1] := St.giveS (y := some (g1, A1, c1, ws1)) heg HS
        replace HS : St W M W5 [blk g2 [.slice A2 ws3.length c2, .int .i64 cols] 113, row A2 ws3.length c2 (ci .u64 ws3) 110 1, many (rsE 113 110 cols (rs9.eraseIdx r.toNat)), blk g [.slice R rs9.length cr, .int .i64 cols] 105, row R rs9.length cr (cf cpt rs9) 98 1] := HS.perm (perm_ [1, 2, 0, 3, 4] (by kernel_rfl) rfl)
        replace HS : St W M W5 [many (rsE 113 110 cols (rs9.set r.toNat (some (g2, A2, c2, ws3)))), blk g [.slice R rs9.length cr, .int .i64 cols] 105, row R rs9.length cr (cf cpt rs9) 98 1] := St.giveE (y := (some (g2, A2, c2, ws3))) (by omega) HS
        replace HS : St W M W5 [blk g [.slice R rs9.length cr, .int .i64 cols] 105, row R rs9.length cr (cf cpt rs9) 98 1, many (rsE 113 110 cols (rs9.set r.toNat (some (g2, A2, c2, ws3))))] := HS.perm (perm_ [1, 2, 0] (by kernel_rfl) rfl)
        have hlq : rs9.length = (rs9.set r.toNat (some (g2, A2, c2, ws3))).length := by rw [List.length_set]
        rw [hlq] at HS
        have hcf : cf cpt rs9 = cf cpt (rs9.set r.toNat (some (g2, A2, c2, ws3))) := cpt_set hg9s.2.2
        rw [hcf] at HS
        exact ⟨_, by rw [ha.2], HS, by rw [ha.1]; exact hR9.set_ (y := (g2, A2, c2, ws3)) hR3, by rw [List.length_set]; exact hl9⟩
    · skip
      refine (mown_o g cr R cols rs Ls r _ _ (St.focus (F := [blk g [.slice R rs.length cr, .int .i64 cols] 105, row R rs.length cr (cf cpt rs) 98 1, many (rsE 113 110 cols rs)]) HS) hR hc hl (by omega)).mono ?_
      rintro e W6 ⟨rfl, H_⟩
      refine ⟨_, rfl, ?_⟩
      replace HS : St W M W6 [blk g [.slice R rs.length cr, .int .i64 cols] 105, row R rs.length cr (cf cpt rs) 98 1, many (rsE 113 110 cols rs)] := HS.join (F := [blk g [.slice R rs.length cr, .int .i64 cols] 105, row R rs.length cr (cf cpt rs) 98 1, many (rsE 113 110 cols rs)]) (G := [blk g [.slice R rs.length cr, .int .i64 cols] 105, row R rs.length cr (cf cpt rs) 98 1, many (rsE 113 110 cols rs)]) H_
      clear H_
      refine ql (.pointer (some ⟨g1, 0, none⟩)) (by kernel_rfl) (by kernel_rfl) ?_
      refine qc (f := 92) (args := #[.pointer none, .pointer (some ⟨g1, 0, none⟩)]) (by kernel_rfl) (R_call #[.pointer none, .pointer (some ⟨g1, 0, none⟩)] Try.func92 (by kernel_rfl) (by kernel_rfl) (by kernel_rfl)) ?_
      refine (dor_nil_l 0 g1 _).mono ?_
      rintro e W7 ⟨rfl, H_⟩
      refine ⟨_, rfl, ?_⟩
      replace HS : St W M W7 [blk g [.slice R rs.length cr, .int .i64 cols] 105, row R rs.length cr (cf cpt rs) 98 1, many (rsE 113 110 cols rs)] := HS.join (F := []) (G := []) H_
      clear H_
      refine ql (.bool false) (by kernel_rfl) (by kernel_rfl) ?_
      refine ql (.bool false) (by kernel_rfl) (by kernel_rfl) ?_
      refine wpList_nil ?_
      refine x_then ?_
      refine wp_ret ?_
      refine ret_ (.bool false) (by kernel_rfl) ?_
      have ha := orM_r (Ls := Ls) (r := r) (o := o) (by omega)
      exact ⟨rs, by rw [ha.2], HS, by rw [ha.1]; exact hR, rfl⟩

set_option maxRecDepth 100000 in
set_option maxHeartbeats 1000000 in
theorem mclose (g cr : Nat) (R : Option Addr) (cols : Int) (rs : List Rw) (Ls : List (List Int)) (W : World) (M : Nat → Prop) (HS : St W M W [blk g [.slice R rs.length cr, .int .i64 cols] 105, row R rs.length cr (cf cpt rs) 98 1, many (rsE 113 110 cols rs)]) (hR : MRep rs cols Ls) (hc : cols ≤ 65536) (hl : rs.length ≤ 65536) (hsq : (rs.length : Int) = cols) : Calls Try.prog 58 #[.pointer (some ⟨g, 0, none⟩)] W fun e W' => ∃ rs', e = .returned (.int .i64 ((cntL (clo Ls) : Int) - (cntL Ls : Int))) ∧ St W M W' [blk g [.slice R rs'.length cr, .int .i64 cols] 105, row R rs'.length cr (cf cpt rs') 98 1, many (rsE 113 110 cols rs')] ∧ MRep rs' cols (clo Ls) ∧ rs'.length = rs.length := by
  have h0c := hR.c0
  have hlen := hR.len
  obtain ⟨N, hN⟩ : ∃ z_ : Nat, z_ = rs.length := ⟨_, rfl⟩
  have hsq9 := hsq
  refine calls_enter [.pointer (some ⟨g, 0, none⟩), undef, undef, undef, undef, undef, undef, undef, undef, undef, undef, undef, undef, undef, undef, undef, undef, undef, undef, undef, undef, undef, undef, undef, undef, undef, undef, undef, undef, undef, undef, undef, undef, undef, undef, undef, undef] Try.func58 rfl (by kernel_rfl) ?_
  refine wp_seq ?_
  refine wp_region_lit ?_
  refine ql (.int .i64 0) (by kernel_rfl) (by kernel_rfl) ?_
  refine wpList_nil ?_
  refine x_then ?_
  refine wp_seq ?_
  refine wp_seq ?_
  refine wp_region_lit ?_
  refine ql (.pointer (some ⟨g, 0, none⟩)) (by kernel_rfl) (by kernel_rfl) ?_
  refine qc (f := 80) (args := #[.pointer (some ⟨g, 0, none⟩)]) (by kernel_rfl) (R_call #[.pointer (some ⟨g, 0, none⟩)] Try.func80 (by kernel_rfl) (by kernel_rfl) (by kernel_rfl)) ?_
  refine (mrows g cr R cols rs Ls _ (Mr.of HS (i := 0) (j := 1) (m := 2) rfl rfl rfl) hR hc (by omega)).mono ?_
  rintro e W1 ⟨rfl, H_⟩
  refine ⟨_, rfl, ?_⟩
  replace HS : St W M W1 [blk g [.slice R rs.length cr, .int .i64 cols] 105, row R rs.length cr (cf cpt rs) 98 1, many (rsE 113 110 cols rs)] := HS.join (F := []) (G := []) H_
  clear H_
  refine ql (.pointer (some ⟨g, 0, none⟩)) (by kernel_rfl) (by kernel_rfl) ?_
  refine qc (f := 78) (args := #[.pointer (some ⟨g, 0, none⟩)]) (by kernel_rfl) (R_call #[.pointer (some ⟨g, 0, none⟩)] Try.func78 (by kernel_rfl) (by kernel_rfl) (by kernel_rfl)) ?_
  refine (mcols g cr R cols rs Ls _ (Mr.of HS (i := 0) (j := 1) (m := 2) rfl rfl rfl) hR hc hl).mono ?_
  rintro e W2 ⟨rfl, H_⟩
  refine ⟨_, rfl, ?_⟩
  replace HS : St W M W2 [blk g [.slice R rs.length cr, .int .i64 cols] 105, row R rs.length cr (cf cpt rs) 98 1, many (rsE 113 110 cols rs)] := HS.join (F := []) (G := []) H_
  clear H_
  refine ql (.bool false) (by kernel_rfl) (R_beq (b := ((rs.length : Int) != cols)) (by kernel_rfl) (bne_f (by omega))) ?_
  refine wpList_nil ?_
  refine x_then ?_
  refine wp_cond_false (by kernel_rfl) ?_
  refine wp_skip ?_
  refine x_then ?_
  refine wp_seq ?_
  refine wp_region_lit ?_
  refine ql (.pointer (some ⟨g, 0, none⟩)) (by kernel_rfl) (by kernel_rfl) ?_
  refine qc (f := 81) (args := #[.pointer (some ⟨g, 0, none⟩)]) (by kernel_rfl) (R_call #[.pointer (some ⟨g, 0, none⟩)] Try.func81 (by kernel_rfl) (by kernel_rfl) (by kernel_rfl)) ?_
  have hcn2 := hR.cnt_le hc
  have hcm2 := hR.len
  refine (mcount g cr R cols rs Ls _ (Mr.of HS (i := 0) (j := 1) (m := 2) rfl rfl rfl) hR hc (by omega)).mono ?_
  rintro e W3 ⟨rfl, H_⟩
  refine ⟨_, rfl, ?_⟩
  replace HS : St W M W3 [blk g [.slice R rs.length cr, .int .i64 cols] 105, row R rs.length cr (cf cpt rs) 98 1, many (rsE 113 110 cols rs)] := HS.join (F := []) (G := []) H_
  clear H_
  refine ql (.int .i64 (cntL Ls : Int)) (by kernel_rfl) (by kernel_rfl) ?_
  refine wpList_nil ?_
  refine x_then ?_
  refine wp_seq ?_
  refine wp_seq ?_
  refine wp_region_lit ?_
  refine ql (.pointer (some ⟨g, 0, none⟩)) (by kernel_rfl) (by kernel_rfl) ?_
  refine qc (f := 80) (args := #[.pointer (some ⟨g, 0, none⟩)]) (by kernel_rfl) (R_call #[.pointer (some ⟨g, 0, none⟩)] Try.func80 (by kernel_rfl) (by kernel_rfl) (by kernel_rfl)) ?_
  refine (mrows g cr R cols rs Ls _ (Mr.of HS (i := 0) (j := 1) (m := 2) rfl rfl rfl) hR hc (by omega)).mono ?_
  rintro e W4 ⟨rfl, H_⟩
  refine ⟨_, rfl, ?_⟩
  replace HS : St W M W4 [blk g [.slice R rs.length cr, .int .i64 cols] 105, row R rs.length cr (cf cpt rs) 98 1, many (rsE 113 110 cols rs)] := HS.join (F := []) (G := []) H_
  clear H_
  refine ql (.int .i64 0) (by kernel_rfl) (by kernel_rfl) ?_
  refine wpList_nil ?_
  refine x_then ?_
  refine wp_block ?_
  refine wp_loop_ghost (fun kq a' w' => ∃ (J5 : Nat → Value) (k : Int) (rk : List Rw) (Lk : List (List Int)) , a' = Fr [.pointer (some ⟨g, 0, none⟩), undef, .int .i64 0, .int .i64 (cntL Ls : Int), (J5 4), (J5 5), .pointer (some ⟨g, 0, none⟩), .int .i64 (rs.length : Int), .pointer (some ⟨g, 0, none⟩), .int .i64 cols, .bool false, .pointer (some ⟨g, 0, none⟩), .int .i64 (cntL Ls : Int), .pointer (some ⟨g, 0, none⟩), .int .i64 (rs.length : Int), .int .i64 k, (J5 16), (J5 17), (J5 18), (J5 19), (J5 20), (J5 21), (J5 22), (J5 23), (J5 24), (J5 25), (J5 26), (J5 27), (J5 28), (J5 29), (J5 30), (J5 31), (J5 32), undef, undef, undef, undef] ∧ kq = (N - (k).toNat) ∧ (0 ≤ k) ∧ (k ≤ N) ∧ (MRep rk cols Lk) ∧ (rk.length = N) ∧ (Lk = outr Ls.length (k).toNat Ls) ∧ St W M w' [blk g [.slice R rk.length cr, .int .i64 cols] 105, row R rk.length cr (cf cpt rk) 98 1, many (rsE 113 110 cols rk)]) (N - ((0 : Int)).toNat) ⟨(fun k_ : Nat => List.getD [.pointer (some ⟨g, 0, none⟩), undef, .int .i64 0, .int .i64 (cntL Ls : Int), undef, undef, .pointer (some ⟨g, 0, none⟩), .int .i64 (rs.length : Int), .pointer (some ⟨g, 0, none⟩), .int .i64 cols, .bool false, .pointer (some ⟨g, 0, none⟩), .int .i64 (cntL Ls : Int), .pointer (some ⟨g, 0, none⟩), .int .i64 (rs.length : Int), .int .i64 0, undef, undef, undef, undef, undef, undef, undef, undef, undef, undef, undef, undef, undef, undef, undef, undef, undef, undef, undef, undef, undef] k_ undef), (0 : Int), rs, Ls, congrArg Fr (by kernel_rfl), rfl, by omega, by omega, hR, hN.symm, rfl, HS⟩ ?_
  clear HS
  intro kq6 a' W7 hrel
  obtain ⟨J5, k, rk, Lk, rfl, hk, k0, k1, hRk, hlk, hk_, HS⟩ := hrel
  refine wp_seq ?_
  refine wp_region_lit ?_
  by_cases hc8 : k < (rs.length : Int)
  · skip
    refine ql (.bool true) (by kernel_rfl) (R_bool (p := k < (rs.length : Int)) (by kernel_rfl) (hc8)) ?_
    refine wpList_nil ?_
    refine x_then ?_
    refine wp_seq ?_
    refine wp_cond_true (by kernel_rfl) ?_
    refine wp_skip ?_
    refine x_then ?_
    refine wp_seq ?_
    refine wp_block ?_
    refine wp_seq ?_
    refine wp_region_lit ?_
    refine ql (.int .i64 k) (by kernel_rfl) (by kernel_rfl) ?_
    refine ql (.int .i64 k) (by kernel_rfl) (by kernel_rfl) ?_
    refine wpList_nil ?_
    refine x_then ?_
    refine wp_seq ?_
    refine wp_region_lit ?_
    refine ql (.pointer (some ⟨g, 0, none⟩)) (by kernel_rfl) (by kernel_rfl) ?_
    refine qc (f := 80) (args := #[.pointer (some ⟨g, 0, none⟩)]) (by kernel_rfl) (R_call #[.pointer (some ⟨g, 0, none⟩)] Try.func80 (by kernel_rfl) (by kernel_rfl) (by kernel_rfl)) ?_
    refine (mrows g cr R cols rk Lk _ (Mr.of HS (i := 0) (j := 1) (m := 2) rfl rfl rfl) hRk hc (by omega)).mono ?_
    rintro e W9 ⟨rfl, H_⟩
    refine ⟨_, rfl, ?_⟩
    replace HS : St W M W9 [blk g [.slice R rk.length cr, .int .i64 cols] 105, row R rk.length cr (cf cpt rk) 98 1, many (rsE 113 110 cols rk)] := HS.join (F := []) (G := []) H_
    clear H_
    refine ql (.int .i64 0) (by kernel_rfl) (by kernel_rfl) ?_
    refine wpList_nil ?_
    refine x_then ?_
    refine wp_block ?_
    refine wp_loop_ghost (fun kq a' w' => ∃ (J10 : Nat → Value) (r : Int) (rr : List Rw) (Lr : List (List Int)) , a' = Fr [.pointer (some ⟨g, 0, none⟩), undef, .int .i64 0, .int .i64 (cntL Ls : Int), .int .i64 k, (J10 5), .pointer (some ⟨g, 0, none⟩), .int .i64 (rs.length : Int), .pointer (some ⟨g, 0, none⟩), .int .i64 cols, .bool false, .pointer (some ⟨g, 0, none⟩), .int .i64 (cntL Ls : Int), .pointer (some ⟨g, 0, none⟩), .int .i64 (rs.length : Int), .int .i64 k, .bool true, .int .i64 k, .pointer (some ⟨g, 0, none⟩), .int .i64 (rk.length : Int), .int .i64 r, (J10 21), (J10 22), (J10 23), (J10 24), (J10 25), (J10 26), (J10 27), (J10 28), (J10 29), (J10 30), (J10 31), (J5 32), undef, undef, undef, undef] ∧ kq = (N - (r).toNat) ∧ (0 ≤ r) ∧ (r ≤ N) ∧ (MRep rr cols Lr) ∧ (rr.length = N) ∧ (Lr = inn k (r).toNat Lk) ∧ St W M w' [blk g [.slice R rr.length cr, .int .i64 cols] 105, row R rr.length cr (cf cpt rr) 98 1, many (rsE 113 110 cols rr)]) (N - ((0 : Int)).toNat) ⟨(fun k_ : Nat => List.getD [.pointer (some ⟨g, 0, none⟩), undef, .int .i64 0, .int .i64 (cntL Ls : Int), .int .i64 k, (J5 5), .pointer (some ⟨g, 0, none⟩), .int .i64 (rs.length : Int), .pointer (some ⟨g, 0, none⟩), .int .i64 cols, .bool false, .pointer (some ⟨g, 0, none⟩), .int .i64 (cntL Ls : Int), .pointer (some ⟨g, 0, none⟩), .int .i64 (rs.length : Int), .int .i64 k, .bool true, .int .i64 k, .pointer (some ⟨g, 0, none⟩), .int .i64 (rk.length : Int), .int .i64 0, (J5 21), (J5 22), (J5 23), (J5 24), (J5 25), (J5 26), (J5 27), (J5 28), (J5 29), (J5 30), (J5 31), (J5 32), undef, undef, undef, undef] k_ undef), (0 : Int), rk, Lk, congrArg Fr (by kernel_rfl), rfl, by omega, by omega, hRk, hlk, rfl, HS⟩ ?_
    clear HS
    intro kq11 a' W12 hrel
    obtain ⟨J10, r, rr, Lr, rfl, hk, r0, r1, hRr, hlr, hr_, HS⟩ := hrel
    refine wp_seq ?_
    refine wp_region_lit ?_
    by_cases hc13 : r < (rk.length : Int)
    · skip
      refine ql (.bool true) (by kernel_rfl) (R_bool (p := r < (rk.length : Int)) (by kernel_rfl) (hc13)) ?_
      refine wpList_nil ?_
      refine x_then ?_
      refine wp_seq ?_
      refine wp_cond_true (by kernel_rfl) ?_
      refine wp_skip ?_
      refine x_then ?_
      refine wp_seq ?_
      refine wp_block ?_
      refine wp_seq ?_
      refine wp_region_lit ?_
      refine ql (.int .i64 r) (by kernel_rfl) (by kernel_rfl) ?_
      refine ql (.int .i64 r) (by kernel_rfl) (by kernel_rfl) ?_
      refine wpList_nil ?_
      refine x_then ?_
      refine wp_seq ?_
      refine wp_region_lit ?_
      refine ql (.pointer (some ⟨g, 0, none⟩)) (by kernel_rfl) (by kernel_rfl) ?_
      refine ql (.int .i64 r) (by kernel_rfl) (by kernel_rfl) ?_
      refine ql (.int .i64 k) (by kernel_rfl) (by kernel_rfl) ?_
      refine qc (f := 59) (args := #[.pointer (some ⟨g, 0, none⟩), .int .i64 r, .int .i64 k]) (by kernel_rfl) (R_call #[.pointer (some ⟨g, 0, none⟩), .int .i64 r, .int .i64 k] Try.func59 (by kernel_rfl) (by kernel_rfl) (by kernel_rfl)) ?_
      by_cases hv : k ∈ rowL Lr r
      · skip
        have hdx : decide (k ∈ rowL Lr r) = true := decide_eq_true hv
        refine (mhas g cr R cols rr Lr r k _ (Mr.of HS (i := 0) (j := 1) (m := 2) rfl rfl rfl) hRr hc (by omega)).mono ?_
        rintro e W14 ⟨rfl, H_⟩
        rw [hdx]
        refine ⟨_, rfl, ?_⟩
        replace HS : St W M W14 [blk g [.slice R rr.length cr, .int .i64 cols] 105, row R rr.length cr (cf cpt rr) 98 1, many (rsE 113 110 cols rr)] := HS.join (F := []) (G := []) H_
        clear H_
        refine wpList_nil ?_
        refine x_then ?_
        refine wp_cond_true (by kernel_rfl) ?_
        refine wp_region_lit ?_
        refine ql (.pointer (some ⟨g, 0, none⟩)) (by kernel_rfl) (by kernel_rfl) ?_
        refine ql (.int .i64 r) (by kernel_rfl) (by kernel_rfl) ?_
        refine ql (.int .i64 k) (by kernel_rfl) (by kernel_rfl) ?_
        refine qc (f := 82) (args := #[.pointer (some ⟨g, 0, none⟩), .int .i64 r, .int .i64 k]) (by kernel_rfl) (R_call #[.pointer (some ⟨g, 0, none⟩), .int .i64 r, .int .i64 k] Try.func82 (by kernel_rfl) (by kernel_rfl) (by kernel_rfl)) ?_
        refine (mor g cr R cols rr Lr r k _ _ (St.focus (F := [blk g [.slice R rr.length cr, .int .i64 cols] 105, row R rr.length cr (cf cpt rr) 98 1, many (rsE 113 110 cols rr)]) HS) hRr hc (by omega)).mono ?_
        rintro e W15 ⟨ro, rfl, H_, hRo, hlo⟩
        refine ⟨_, rfl, ?_⟩
        replace HS : St W M W15 [blk g [.slice R ro.length cr, .int .i64 cols] 105, row R ro.length cr (cf cpt ro) 98 1, many (rsE 113 110 cols ro)] := HS.join (F := [blk g [.slice R rr.length cr, .int .i64 cols] 105, row R rr.length cr (cf cpt rr) 98 1, many (rsE 113 110 cols rr)]) (G := [blk g [.slice R ro.length cr, .int .i64 cols] 105, row R ro.length cr (cf cpt ro) 98 1, many (rsE 113 110 cols ro)]) H_
        clear H_
        refine wpList_nil ?_
        refine x_inb ?_
        refine x_then ?_
        refine wp_region_lit ?_
        refine ql (.int .i64 (r + 1)) (by kernel_rfl) (R_int (by kernel_rfl) (w64 (by omega))) ?_
        refine ql (.int .i64 (r + 1)) (by kernel_rfl) (by kernel_rfl) ?_
        refine wpList_nil ?_
        refine x_then ?_
        exact ⟨N - (r + 1).toNat, by omega, (fun k_ : Nat => List.getD [.pointer (some ⟨g, 0, none⟩), undef, .int .i64 0, .int .i64 (cntL Ls : Int), .int .i64 k, .int .i64 r, .pointer (some ⟨g, 0, none⟩), .int .i64 (rs.length : Int), .pointer (some ⟨g, 0, none⟩), .int .i64 cols, .bool false, .pointer (some ⟨g, 0, none⟩), .int .i64 (cntL Ls : Int), .pointer (some ⟨g, 0, none⟩), .int .i64 (rs.length : Int), .int .i64 k, .bool true, .int .i64 k, .pointer (some ⟨g, 0, none⟩), .int .i64 (rk.length : Int), .int .i64 (r + 1), .bool true, .int .i64 r, .pointer (some ⟨g, 0, none⟩), .int .i64 r, .int .i64 k, .bool true, .pointer (some ⟨g, 0, none⟩), .int .i64 r, .int .i64 k, .bool (orMB Lr r k), .int .i64 (r + 1), (J5 32), undef, undef, undef, undef] k_ undef), r + 1, ro, (orM Lr r k), congrArg Fr (by kernel_rfl), rfl, by omega, by omega, hRo, by omega, (by have h_ := inn_step hr_ r0; rw [stpR, if_pos hv] at h_; exact h_), HS⟩
      · skip
        have hdx : decide (k ∈ rowL Lr r) = false := decide_eq_false hv
        refine (mhas g cr R cols rr Lr r k _ (Mr.of HS (i := 0) (j := 1) (m := 2) rfl rfl rfl) hRr hc (by omega)).mono ?_
        rintro e W16 ⟨rfl, H_⟩
        rw [hdx]
        refine ⟨_, rfl, ?_⟩
        replace HS : St W M W16 [blk g [.slice R rr.length cr, .int .i64 cols] 105, row R rr.length cr (cf cpt rr) 98 1, many (rsE 113 110 cols rr)] := HS.join (F := []) (G := []) H_
        clear H_
        refine wpList_nil ?_
        refine x_then ?_
        refine wp_cond_false (by kernel_rfl) ?_
        refine wp_skip ?_
        refine x_inb ?_
        refine x_then ?_
        refine wp_region_lit ?_
        refine ql (.int .i64 (r + 1)) (by kernel_rfl) (R_int (by kernel_rfl) (w64 (by omega))) ?_
        refine ql (.int .i64 (r + 1)) (by kernel_rfl) (by kernel_rfl) ?_
        refine wpList_nil ?_
        refine x_then ?_
        exact ⟨N - (r + 1).toNat, by omega, (fun k_ : Nat => List.getD [.pointer (some ⟨g, 0, none⟩), undef, .int .i64 0, .int .i64 (cntL Ls : Int), .int .i64 k, .int .i64 r, .pointer (some ⟨g, 0, none⟩), .int .i64 (rs.length : Int), .pointer (some ⟨g, 0, none⟩), .int .i64 cols, .bool false, .pointer (some ⟨g, 0, none⟩), .int .i64 (cntL Ls : Int), .pointer (some ⟨g, 0, none⟩), .int .i64 (rs.length : Int), .int .i64 k, .bool true, .int .i64 k, .pointer (some ⟨g, 0, none⟩), .int .i64 (rk.length : Int), .int .i64 (r + 1), .bool true, .int .i64 r, .pointer (some ⟨g, 0, none⟩), .int .i64 r, .int .i64 k, .bool false, (J10 27), (J10 28), (J10 29), (J10 30), .int .i64 (r + 1), (J5 32), undef, undef, undef, undef] k_ undef), r + 1, rr, Lr, congrArg Fr (by kernel_rfl), rfl, by omega, by omega, hRr, by omega, (by have h_ := inn_step hr_ r0; rw [stpR, if_neg hv] at h_; exact h_), HS⟩
    · skip
      refine ql (.bool false) (by kernel_rfl) (R_nbool (p := r < (rk.length : Int)) (by kernel_rfl) (hc13)) ?_
      refine wpList_nil ?_
      refine x_then ?_
      refine wp_seq ?_
      refine wp_cond_false (by kernel_rfl) ?_
      refine wp_exit ?_
      refine x_thenE ?_
      refine x_thenE ?_
      refine x_hit ?_
      refine x_inb ?_
      refine x_then ?_
      refine wp_region_lit ?_
      refine ql (.int .i64 (k + 1)) (by kernel_rfl) (R_int (by kernel_rfl) (w64 (by omega))) ?_
      refine ql (.int .i64 (k + 1)) (by kernel_rfl) (by kernel_rfl) ?_
      refine wpList_nil ?_
      refine x_then ?_
      exact ⟨N - (k + 1).toNat, by omega, (fun k_ : Nat => List.getD [.pointer (some ⟨g, 0, none⟩), undef, .int .i64 0, .int .i64 (cntL Ls : Int), .int .i64 k, (J10 5), .pointer (some ⟨g, 0, none⟩), .int .i64 (rs.length : Int), .pointer (some ⟨g, 0, none⟩), .int .i64 cols, .bool false, .pointer (some ⟨g, 0, none⟩), .int .i64 (cntL Ls : Int), .pointer (some ⟨g, 0, none⟩), .int .i64 (rs.length : Int), .int .i64 (k + 1), .bool true, .int .i64 k, .pointer (some ⟨g, 0, none⟩), .int .i64 (rk.length : Int), .int .i64 r, .bool false, (J10 22), (J10 23), (J10 24), (J10 25), (J10 26), (J10 27), (J10 28), (J10 29), (J10 30), (J10 31), .int .i64 (k + 1), undef, undef, undef, undef] k_ undef), k + 1, rr, Lr, congrArg Fr (by kernel_rfl), rfl, by omega, by omega, hRr, by omega, (outr_step hk_ k0 (by rw [hr_, show r.toNat = Ls.length by omega])), HS⟩
  · skip
    refine ql (.bool false) (by kernel_rfl) (R_nbool (p := k < (rs.length : Int)) (by kernel_rfl) (hc8)) ?_
    refine wpList_nil ?_
    refine x_then ?_
    refine wp_seq ?_
    refine wp_cond_false (by kernel_rfl) ?_
    refine wp_exit ?_
    refine x_thenE ?_
    refine x_thenE ?_
    refine x_hit ?_
    refine x_then ?_
    refine wp_seq ?_
    refine wp_region_lit ?_
    refine ql (.pointer (some ⟨g, 0, none⟩)) (by kernel_rfl) (by kernel_rfl) ?_
    refine qc (f := 81) (args := #[.pointer (some ⟨g, 0, none⟩)]) (by kernel_rfl) (R_call #[.pointer (some ⟨g, 0, none⟩)] Try.func81 (by kernel_rfl) (by kernel_rfl) (by kernel_rfl)) ?_
    have hcn16 := hRk.cnt_le hc
    have hcm16 := hRk.len
    refine (mcount g cr R cols rk Lk _ (Mr.of HS (i := 0) (j := 1) (m := 2) rfl rfl rfl) hRk hc (by omega)).mono ?_
    rintro e W17 ⟨rfl, H_⟩
    refine ⟨_, rfl, ?_⟩
    replace HS : St W M W17 [blk g [.slice R rk.length cr, .int .i64 cols] 105, row R rk.length cr (cf cpt rk) 98 1, many (rsE 113 110 cols rk)] := HS.join (F := []) (G := []) H_
    clear H_
    refine ql (.int .i64 (cntL Ls : Int)) (by kernel_rfl) (by kernel_rfl) ?_
    refine ql (.int .i64 ((cntL Lk : Int) - (cntL Ls : Int))) (by kernel_rfl) (R_int (by kernel_rfl) (w64 (by omega))) ?_
    refine ql (.int .i64 ((cntL Lk : Int) - (cntL Ls : Int))) (by kernel_rfl) (by kernel_rfl) ?_
    refine wpList_nil ?_
    refine x_then ?_
    refine wp_ret ?_
    refine ret_ (.int .i64 ((cntL Lk : Int) - (cntL Ls : Int))) (by kernel_rfl) ?_
    have hk9 : k.toNat = Ls.length := by omega
    rw [hk9] at hk_
    exact ⟨rk, by rw [show clo Ls = Lk from hk_.symm], HS, by rw [show clo Ls = Lk from hk_.symm]; exact hRk, by omega⟩

open Go.Shelf
set_option maxRecDepth 100000 in
set_option maxHeartbeats 1000000 in
theorem klen (k : Nat) (n : Int) (W : World) (hk0 : W.cell? ⟨k, 0, none⟩ = some (.int .i64 n)) : Calls Try.prog 36 #[.pointer (some ⟨k, 0, none⟩)] W fun e W' => e = .returned (.int .i64 n) ∧ St W (owns []) W' [] := by
  have HS : St W (owns []) W [] := St.start W _
  refine calls_enter [.pointer (some ⟨k, 0, none⟩), undef, undef, undef, undef, undef, undef, undef, undef] Try.func36 rfl (by kernel_rfl) ?_
  refine wp_seq ?_
  refine wp_region_lit ?_
  refine ql (.int .i64 0) (by kernel_rfl) (by kernel_rfl) ?_
  refine wpList_nil ?_
  refine x_then ?_
  refine wp_seq ?_
  refine wp_seq ?_
  refine wp_region_lit ?_
  refine ql (.pointer (some ⟨k, 0, none⟩)) (by kernel_rfl) (by kernel_rfl) ?_
  refine ql (.bool false) (by kernel_rfl) (by kernel_rfl) ?_
  refine wpList_nil ?_
  refine x_then ?_
  refine wp_cond_false (by kernel_rfl) ?_
  refine wp_skip ?_
  refine x_then ?_
  refine wp_seq ?_
  refine wp_region_lit ?_
  refine ql (.pointer (some ⟨k, 0, none⟩)) (by kernel_rfl) (by kernel_rfl) ?_
  refine ql (.pointer (some ⟨k, 0, none⟩)) (by kernel_rfl) (by kernel_rfl) ?_
  refine ql (.pointer (some ⟨k, 0, none⟩)) (by kernel_rfl) (by kernel_rfl) ?_
  refine ql (.int .i64 n) (by kernel_rfl) (R_load (p := ⟨k, 0, none⟩) (by kernel_rfl) (by kernel_rfl) (by kernel_rfl) (HS.old0 hk0)) ?_
  refine ql (.int .i64 n) (by kernel_rfl) (by kernel_rfl) ?_
  refine wpList_nil ?_
  refine x_then ?_
  refine wp_ret ?_
  refine ret_ (.int .i64 n) (by kernel_rfl) ?_
  exact ⟨rfl, HS⟩

set_option maxRecDepth 100000 in
set_option maxHeartbeats 1000000 in
theorem kis_t (k : Nat) (n u : Int) (W : World) (hk0 : W.cell? ⟨k, 0, none⟩ = some (.int .i64 n)) (hu : 0 ≤ u ∧ u < n) : Calls Try.prog 54 #[.pointer (some ⟨k, 0, none⟩), .int .i64 u] W fun e W' => e = .returned (.bool true) ∧ St W (owns []) W' [] := by
  have HS : St W (owns []) W [] := St.start W _
  refine calls_enter [.pointer (some ⟨k, 0, none⟩), .int .i64 u, undef, undef, undef, undef, undef, undef, undef, undef, undef, undef, undef] Try.func54 rfl (by kernel_rfl) ?_
  refine wp_seq ?_
  refine wp_region_lit ?_
  refine ql (.bool false) (by kernel_rfl) (by kernel_rfl) ?_
  refine wpList_nil ?_
  refine x_then ?_
  refine wp_seq ?_
  refine wp_region_lit ?_
  refine ql (.int .i64 u) (by kernel_rfl) (by kernel_rfl) ?_
  by_cases hc1 : u ≥ (0 : Int)
  · skip
    refine ql (.bool true) (by kernel_rfl) (R_bool (p := u ≥ (0 : Int)) (by kernel_rfl) (hc1)) ?_
    refine ql (.bool true) (by kernel_rfl) (by kernel_rfl) ?_
    refine ql (.int .i64 u) (by kernel_rfl) (by kernel_rfl) ?_
    refine ql (.pointer (some ⟨k, 0, none⟩)) (by kernel_rfl) (by kernel_rfl) ?_
    refine qc (f := 36) (args := #[.pointer (some ⟨k, 0, none⟩)]) (by kernel_rfl) (R_call #[.pointer (some ⟨k, 0, none⟩)] Try.func36 (by kernel_rfl) (by kernel_rfl) (by kernel_rfl)) ?_
    refine (klen k n _ (HS.old0 hk0)).mono ?_
    rintro e W2 ⟨rfl, H_⟩
    refine ⟨_, rfl, ?_⟩
    replace HS : St W (owns []) W2 [] := HS.join (F := []) (G := []) H_
    clear H_
    by_cases hc3 : u < n
    · skip
      refine ql (.bool true) (by kernel_rfl) (R_bool (p := u < n) (by kernel_rfl) (hc3)) ?_
      refine ql (.bool true) (by kernel_rfl) (by kernel_rfl) ?_
      refine ql (.bool true) (by kernel_rfl) (by kernel_rfl) ?_
      refine wpList_nil ?_
      refine x_then ?_
      refine wp_ret ?_
      refine ret_ (.bool true) (by kernel_rfl) ?_
      exact ⟨rfl, HS⟩
    · skip
      refine ql (.bool false) (by kernel_rfl) (R_nbool (p := u < n) (by kernel_rfl) (hc3)) ?_
      refine ql (.bool false) (by kernel_rfl) (by kernel_rfl) ?_
      refine ql (.bool false) (by kernel_rfl) (by kernel_rfl) ?_
      refine wpList_nil ?_
      refine x_then ?_
      refine wp_ret ?_
      refine ret_ (.bool false) (by kernel_rfl) ?_
      exfalso; omega
  · skip
    refine ql (.bool false) (by kernel_rfl) (R_nbool (p := u ≥ (0 : Int)) (by kernel_rfl) (hc1)) ?_
    refine ql (.bool false) (by kernel_rfl) (by kernel_rfl) ?_
    refine qln (by kernel_rfl) ?_
    refine qln (by kernel_rfl) ?_
    refine qln (by kernel_rfl) ?_
    refine qln (by kernel_rfl) ?_
    refine ql (.bool false) (by kernel_rfl) (by kernel_rfl) ?_
    refine ql (.bool false) (by kernel_rfl) (by kernel_rfl) ?_
    refine wpList_nil ?_
    refine x_then ?_
    refine wp_ret ?_
    refine ret_ (.bool false) (by kernel_rfl) ?_
    exfalso; omega

set_option maxRecDepth 100000 in
set_option maxHeartbeats 1000000 in
theorem kis_f (k : Nat) (n u : Int) (W : World) (hk0 : W.cell? ⟨k, 0, none⟩ = some (.int .i64 n)) (hu : ¬ (0 ≤ u ∧ u < n)) : Calls Try.prog 54 #[.pointer (some ⟨k, 0, none⟩), .int .i64 u] W fun e W' => e = .returned (.bool false) ∧ St W (owns []) W' [] := by
  have HS : St W (owns []) W [] := St.start W _
  refine calls_enter [.pointer (some ⟨k, 0, none⟩), .int .i64 u, undef, undef, undef, undef, undef, undef, undef, undef, undef, undef, undef] Try.func54 rfl (by kernel_rfl) ?_
  refine wp_seq ?_
  refine wp_region_lit ?_
  refine ql (.bool false) (by kernel_rfl) (by kernel_rfl) ?_
  refine wpList_nil ?_
  refine x_then ?_
  refine wp_seq ?_
  refine wp_region_lit ?_
  refine ql (.int .i64 u) (by kernel_rfl) (by kernel_rfl) ?_
  by_cases hc1 : u ≥ (0 : Int)
  · skip
    refine ql (.bool true) (by kernel_rfl) (R_bool (p := u ≥ (0 : Int)) (by kernel_rfl) (hc1)) ?_
    refine ql (.bool true) (by kernel_rfl) (by kernel_rfl) ?_
    refine ql (.int .i64 u) (by kernel_rfl) (by kernel_rfl) ?_
    refine ql (.pointer (some ⟨k, 0, none⟩)) (by kernel_rfl) (by kernel_rfl) ?_
    refine qc (f := 36) (args := #[.pointer (some ⟨k, 0, none⟩)]) (by kernel_rfl) (R_call #[.pointer (some ⟨k, 0, none⟩)] Try.func36 (by kernel_rfl) (by kernel_rfl) (by kernel_rfl)) ?_
    refine (klen k n _ (HS.old0 hk0)).mono ?_
    rintro e W2 ⟨rfl, H_⟩
    refine ⟨_, rfl, ?_⟩
    replace HS : St W (owns []) W2 [] := HS.join (F := []) (G := []) H_
    clear H_
    by_cases hc3 : u < n
    · skip
      refine ql (.bool true) (by kernel_rfl) (R_bool (p := u < n) (by kernel_rfl) (hc3)) ?_
      refine ql (.bool true) (by kernel_rfl) (by kernel_rfl) ?_
      refine ql (.bool true) (by kernel_rfl) (by kernel_rfl) ?_
      refine wpList_nil ?_
      refine x_then ?_
      refine wp_ret ?_
      refine ret_ (.bool true) (by kernel_rfl) ?_
      exfalso; omega
    · skip
      refine ql (.bool false) (by kernel_rfl) (R_nbool (p := u < n) (by kernel_rfl) (hc3)) ?_
      refine ql (.bool false) (by kernel_rfl) (by kernel_rfl) ?_
      refine ql (.bool false) (by kernel_rfl) (by kernel_rfl) ?_
      refine wpList_nil ?_
      refine x_then ?_
      refine wp_ret ?_
      refine ret_ (.bool false) (by kernel_rfl) ?_
      exact ⟨rfl, HS⟩
  · skip
    refine ql (.bool false) (by kernel_rfl) (R_nbool (p := u ≥ (0 : Int)) (by kernel_rfl) (hc1)) ?_
    refine ql (.bool false) (by kernel_rfl) (by kernel_rfl) ?_
    refine qln (by kernel_rfl) ?_
    refine qln (by kernel_rfl) ?_
    refine qln (by kernel_rfl) ?_
    refine qln (by kernel_rfl) ?_
    refine ql (.bool false) (by kernel_rfl) (by kernel_rfl) ?_
    refine ql (.bool false) (by kernel_rfl) (by kernel_rfl) ?_
    refine wpList_nil ?_
    refine x_then ?_
    refine wp_ret ?_
    refine ret_ (.bool false) (by kernel_rfl) ?_
    exact ⟨rfl, HS⟩

set_option maxRecDepth 100000 in
set_option maxHeartbeats 1000000 in
theorem khas (k b g cr : Nat) (R : Option Addr) (rs : List Rw) (us : List Int) (n : Int) (l : List (Int × Int)) (a c : Int) (W : World) (hk0 : W.cell? ⟨k, 0, none⟩ = some (.int .i64 n)) (hk1 : W.cell? ⟨k, 1, none⟩ = some (.map (some b))) (hk2 : W.cell? ⟨k, 2, none⟩ = some (.pointer (some ⟨g, 0, none⟩))) (hpl : (mpl Try.prog 3 3 b us).P W) (hm : Mr W g R cr (us.length : Int) rs) (hus : us = kUs n l) (hR : MRep rs (us.length : Int) (kLs n l)) (hn : n ≤ 65536) (hul : us.length ≤ 1000) : Calls Try.prog 21 #[.pointer (some ⟨k, 0, none⟩), .int .i64 a, .int .i64 c] W fun e W' => e = .returned (.bool (knB n l a c)) ∧ St W (owns []) W' [] := by
  have HS : St W (owns []) W [] := St.start W _
  have hrl : rs.length = us.length := by have h1 := hR.len; rw [kLs_len, ← hus] at h1; exact h1
  refine calls_enter ((.pointer (some ⟨k, 0, none⟩)) :: (.int .i64 a) :: (.int .i64 c) :: undef :: undef :: undef :: undef :: undef :: undef :: undef :: undef :: undef :: undef :: undef :: undef :: undef :: undef :: undef :: undef :: undef :: undef :: undef :: undef :: undef :: undef :: undef :: undef :: undef :: undef :: undef :: undef :: undef :: undef :: undef :: undef :: undef :: undef :: undef :: undef :: undef :: undef :: undef :: undef :: undef :: undef :: undef :: undef :: undef :: undef :: undef :: undef :: undef :: undef :: undef :: undef :: undef :: undef :: undef :: undef :: undef :: undef :: undef :: undef :: undef :: undef :: undef :: []) Try.func21 rfl (by kernel_rfl) ?_
  refine wp_seq ?_
  refine wp_region_lit ?_
  refine ql (.bool false) (by kernel_rfl) (by kernel_rfl) ?_
  refine wpList_nil ?_
  refine x_then ?_
  refine wp_seq ?_
  refine wp_seq ?_
  refine wp_region_lit ?_
  refine ql (.pointer (some ⟨k, 0, none⟩)) (by kernel_rfl) (by kernel_rfl) ?_
  refine ql (.int .i64 a) (by kernel_rfl) (by kernel_rfl) ?_
  refine qc (f := 54) (args := #[.pointer (some ⟨k, 0, none⟩), .int .i64 a]) (by kernel_rfl) (R_call #[.pointer (some ⟨k, 0, none⟩), .int .i64 a] Try.func54 (by kernel_rfl) (by kernel_rfl) (by kernel_rfl)) ?_
  by_cases his_a : 0 ≤ a ∧ a < n
  · skip
    refine (kis_t k n a _ (HS.old0 hk0) his_a).mono ?_
    rintro e W1 ⟨rfl, H_⟩
    refine ⟨_, rfl, ?_⟩
    replace HS : St W (owns []) W1 [] := HS.join (F := []) (G := []) H_
    clear H_
    refine ql (.bool false) (by kernel_rfl) (by kernel_rfl) ?_
    refine ql (.bool false) (by kernel_rfl) (by kernel_rfl) ?_
    refine ql (.pointer (some ⟨k, 0, none⟩)) (by kernel_rfl) (by kernel_rfl) ?_
    refine ql (.int .i64 c) (by kernel_rfl) (by kernel_rfl) ?_
    refine qc (f := 54) (args := #[.pointer (some ⟨k, 0, none⟩), .int .i64 c]) (by kernel_rfl) (R_call #[.pointer (some ⟨k, 0, none⟩), .int .i64 c] Try.func54 (by kernel_rfl) (by kernel_rfl) (by kernel_rfl)) ?_
    by_cases his_c : 0 ≤ c ∧ c < n
    · skip
      refine (kis_t k n c _ (HS.old0 hk0) his_c).mono ?_
      rintro e W2 ⟨rfl, H_⟩
      refine ⟨_, rfl, ?_⟩
      replace HS : St W (owns []) W2 [] := HS.join (F := []) (G := []) H_
      clear H_
      refine ql (.bool false) (by kernel_rfl) (by kernel_rfl) ?_
      refine ql (.bool false) (by kernel_rfl) (by kernel_rfl) ?_
      refine wpList_nil ?_
      refine x_then ?_
      refine wp_cond_false (by kernel_rfl) ?_
      refine wp_skip ?_
      refine x_then ?_
      refine wp_seq ?_
      refine wp_region_lit ?_
      refine ql (.pointer (some ⟨k, 0, none⟩)) (by kernel_rfl) (by kernel_rfl) ?_
      refine ql (.pointer (some ⟨k, 0, none⟩)) (by kernel_rfl) (by kernel_rfl) ?_
      refine ql (.pointer (some ⟨k, 1, none⟩)) (by kernel_rfl) (by kernel_rfl) ?_
      refine ql (.map (some b)) (by kernel_rfl) (R_load (p := ⟨k, 1, none⟩) (by kernel_rfl) (by kernel_rfl) (by kernel_rfl) (HS.old0 hk1)) ?_
      refine ql (.int .i64 a) (by kernel_rfl) (by kernel_rfl) ?_
      by_cases hin_a : a ∈ us
      · skip
        refine ql (.tuple #[.int .i64 (plv us a), .bool true]) (by kernel_rfl) (R_eq (R_lookOk (b := b) (us := us) (i := a) (mpl_old hpl HS) (Maps.int_keyed Try.underlying3) Try.underlying80 Try.underlying3 (by kernel_rfl) (by kernel_rfl) (by kernel_rfl) (Maps.keyOf_int_mk Try.underlying3 (WalkArith.wf_i64 (by omega)))) (by rw [decide_eq_true hin_a])) ?_
        refine ql (.tuple #[.int .i64 (plv us a), .bool true]) (by kernel_rfl) (by kernel_rfl) ?_
        refine ql (.int .i64 (plv us a)) (by kernel_rfl) (by kernel_rfl) ?_
        refine ql (.bool true) (by kernel_rfl) (by kernel_rfl) ?_
        refine ql (.int .i64 (plv us a)) (by kernel_rfl) (by kernel_rfl) ?_
        refine ql (.bool true) (by kernel_rfl) (by kernel_rfl) ?_
        refine wpList_nil ?_
        refine x_then ?_
        refine wp_seq ?_
        refine wp_region_lit ?_
        refine ql (.pointer (some ⟨k, 0, none⟩)) (by kernel_rfl) (by kernel_rfl) ?_
        refine ql (.pointer (some ⟨k, 0, none⟩)) (by kernel_rfl) (by kernel_rfl) ?_
        refine ql (.pointer (some ⟨k, 1, none⟩)) (by kernel_rfl) (by kernel_rfl) ?_
        refine ql (.map (some b)) (by kernel_rfl) (R_load (p := ⟨k, 1, none⟩) (by kernel_rfl) (by kernel_rfl) (by kernel_rfl) (HS.old0 hk1)) ?_
        refine ql (.int .i64 c) (by kernel_rfl) (by kernel_rfl) ?_
        by_cases hin_c : c ∈ us
        · skip
          refine ql (.tuple #[.int .i64 (plv us c), .bool true]) (by kernel_rfl) (R_eq (R_lookOk (b := b) (us := us) (i := c) (mpl_old hpl HS) (Maps.int_keyed Try.underlying3) Try.underlying80 Try.underlying3 (by kernel_rfl) (by kernel_rfl) (by kernel_rfl) (Maps.keyOf_int_mk Try.underlying3 (WalkArith.wf_i64 (by omega)))) (by rw [decide_eq_true hin_c])) ?_
          refine ql (.tuple #[.int .i64 (plv us c), .bool true]) (by kernel_rfl) (by kernel_rfl) ?_
          refine ql (.int .i64 (plv us c)) (by kernel_rfl) (by kernel_rfl) ?_
          refine ql (.bool true) (by kernel_rfl) (by kernel_rfl) ?_
          refine ql (.int .i64 (plv us c)) (by kernel_rfl) (by kernel_rfl) ?_
          refine ql (.bool true) (by kernel_rfl) (by kernel_rfl) ?_
          refine wpList_nil ?_
          refine x_then ?_
          refine wp_seq ?_
          refine wp_block ?_
          refine wp_seq ?_
          refine wp_seq ?_
          refine wp_region_lit ?_
          refine ql (.int .i64 a) (by kernel_rfl) (by kernel_rfl) ?_
          refine ql (.int .i64 c) (by kernel_rfl) (by kernel_rfl) ?_
          by_cases hc3 : a = c
          · skip
            refine ql (.bool true) (by kernel_rfl) (R_beq (b := (a == c)) (by kernel_rfl) (beq_t (hc3))) ?_
            refine ql (.bool true) (by kernel_rfl) (by kernel_rfl) ?_
            refine wpList_nil ?_
            refine x_then ?_
            refine wp_cond_true (by kernel_rfl) ?_
            refine wp_skip ?_
            refine x_then ?_
            refine wp_cond_true (by kernel_rfl) ?_
            refine wp_seq ?_
            refine wp_region_lit ?_
            refine ql (.bool true) (by kernel_rfl) (by kernel_rfl) ?_
            refine wpList_nil ?_
            refine x_then ?_
            refine wp_ret ?_
            refine x_inbR ?_
            refine x_thenR ?_
            refine ret_ (.bool true) (by kernel_rfl) ?_
            exact ⟨by rw [knB_same his_a hc3], HS⟩
          · skip
            refine ql (.bool false) (by kernel_rfl) (R_beq (b := (a == c)) (by kernel_rfl) (beq_f (hc3))) ?_
            refine ql (.bool false) (by kernel_rfl) (by kernel_rfl) ?_
            refine wpList_nil ?_
            refine x_then ?_
            refine wp_cond_false (by kernel_rfl) ?_
            refine wp_region_lit ?_
            refine ql (.int .i64 a) (by kernel_rfl) (by kernel_rfl) ?_
            by_cases hc4 : a = (0 : Int)
            · skip
              refine ql (.bool true) (by kernel_rfl) (R_beq (b := (a == (0 : Int))) (by kernel_rfl) (beq_t (hc4))) ?_
              refine ql (.bool true) (by kernel_rfl) (by kernel_rfl) ?_
              refine wpList_nil ?_
              refine x_then ?_
              refine wp_cond_true (by kernel_rfl) ?_
              refine wp_seq ?_
              refine wp_region_lit ?_
              refine ql (.bool true) (by kernel_rfl) (by kernel_rfl) ?_
              refine wpList_nil ?_
              refine x_then ?_
              refine wp_ret ?_
              refine x_inbR ?_
              refine x_thenR ?_
              refine ret_ (.bool true) (by kernel_rfl) ?_
              exact ⟨by rw [hc4, knB_zero his_c.1 his_c.2], HS⟩
            · skip
              refine ql (.bool false) (by kernel_rfl) (R_beq (b := (a == (0 : Int))) (by kernel_rfl) (beq_f (hc4))) ?_
              refine ql (.bool false) (by kernel_rfl) (by kernel_rfl) ?_
              refine wpList_nil ?_
              refine x_then ?_
              refine wp_cond_false (by kernel_rfl) ?_
              refine wp_seq ?_
              refine wp_region_lit ?_
              refine ql (.bool true) (by kernel_rfl) (by kernel_rfl) ?_
              refine ql (.bool false) (by kernel_rfl) (by kernel_rfl) ?_
              refine ql (.bool false) (by kernel_rfl) (by kernel_rfl) ?_
              refine wpList_nil ?_
              refine x_then ?_
              refine wp_cond_false (by kernel_rfl) ?_
              refine wp_skip ?_
              refine x_inb ?_
              refine x_then ?_
              refine wp_seq ?_
              refine wp_region_lit ?_
              refine ql (.pointer (some ⟨k, 0, none⟩)) (by kernel_rfl) (by kernel_rfl) ?_
              refine ql (.pointer (some ⟨k, 0, none⟩)) (by kernel_rfl) (by kernel_rfl) ?_
              refine ql (.pointer (some ⟨k, 2, none⟩)) (by kernel_rfl) (by kernel_rfl) ?_
              refine ql (.pointer (some ⟨g, 0, none⟩)) (by kernel_rfl) (R_load (p := ⟨k, 2, none⟩) (by kernel_rfl) (by kernel_rfl) (by kernel_rfl) (HS.old0 hk2)) ?_
              refine ql (.int .i64 (plv us a)) (by kernel_rfl) (by kernel_rfl) ?_
              refine qc (f := 59) (args := #[.pointer (some ⟨g, 0, none⟩), .int .i64 (plv us a), .int .i64 0]) (by kernel_rfl) (R_call #[.pointer (some ⟨g, 0, none⟩), .int .i64 (plv us a), .int .i64 0] Try.func59 (by kernel_rfl) (by kernel_rfl) (by kernel_rfl)) ?_
              by_cases hro0 : 0 ∈ rowL (kLs n l) (plv us a)
              · skip
                refine (mhas g cr R (us.length : Int) rs (kLs n l) (plv us a) 0 _ (hm.old0 HS) hR (by omega) (by omega)).mono ?_
                rintro e W5 ⟨rfl, H_⟩
                rw [decide_eq_true hro0]
                refine ⟨_, rfl, ?_⟩
                replace HS : St W (owns []) W5 [] := HS.join (F := []) (G := []) H_
                clear H_
                refine ql (.bool true) (by kernel_rfl) (by kernel_rfl) ?_
                refine qln (by kernel_rfl) ?_
                refine qln (by kernel_rfl) ?_
                refine qln (by kernel_rfl) ?_
                refine qln (by kernel_rfl) ?_
                refine qln (by kernel_rfl) ?_
                refine qln (by kernel_rfl) ?_
                refine qln (by kernel_rfl) ?_
                refine qln (by kernel_rfl) ?_
                refine qln (by kernel_rfl) ?_
                refine qln (by kernel_rfl) ?_
                refine ql (.bool true) (by kernel_rfl) (by kernel_rfl) ?_
                refine ql (.bool true) (by kernel_rfl) (by kernel_rfl) ?_
                refine wpList_nil ?_
                refine x_then ?_
                refine wp_ret ?_
                refine ret_ (.bool true) (by kernel_rfl) ?_
                exact ⟨by rw [knB_eq his_a his_c hc3 hc4, ← hus]; simp only [decide_eq_true hin_a, decide_eq_true hin_c, decide_eq_true hro0, Bool.true_and, Bool.false_and, Bool.true_or, Bool.false_or, Bool.and_true, Bool.and_false, Bool.or_false, Bool.or_true, Bool.or_self], HS⟩
              · skip
                refine (mhas g cr R (us.length : Int) rs (kLs n l) (plv us a) 0 _ (hm.old0 HS) hR (by omega) (by omega)).mono ?_
                rintro e W6 ⟨rfl, H_⟩
                rw [decide_eq_false hro0]
                refine ⟨_, rfl, ?_⟩
                replace HS : St W (owns []) W6 [] := HS.join (F := []) (G := []) H_
                clear H_
                refine ql (.bool false) (by kernel_rfl) (by kernel_rfl) ?_
                refine ql (.bool true) (by kernel_rfl) (by kernel_rfl) ?_
                refine ql (.bool true) (by kernel_rfl) (by kernel_rfl) ?_
                refine ql (.pointer (some ⟨k, 0, none⟩)) (by kernel_rfl) (by kernel_rfl) ?_
                refine ql (.pointer (some ⟨k, 0, none⟩)) (by kernel_rfl) (by kernel_rfl) ?_
                refine ql (.pointer (some ⟨k, 2, none⟩)) (by kernel_rfl) (by kernel_rfl) ?_
                refine ql (.pointer (some ⟨g, 0, none⟩)) (by kernel_rfl) (R_load (p := ⟨k, 2, none⟩) (by kernel_rfl) (by kernel_rfl) (by kernel_rfl) (HS.old0 hk2)) ?_
                refine ql (.int .i64 (plv us a)) (by kernel_rfl) (by kernel_rfl) ?_
                refine ql (.int .i64 (plv us c)) (by kernel_rfl) (by kernel_rfl) ?_
                refine qc (f := 59) (args := #[.pointer (some ⟨g, 0, none⟩), .int .i64 (plv us a), .int .i64 (plv us c)]) (by kernel_rfl) (R_call #[.pointer (some ⟨g, 0, none⟩), .int .i64 (plv us a), .int .i64 (plv us c)] Try.func59 (by kernel_rfl) (by kernel_rfl) (by kernel_rfl)) ?_
                by_cases hroc : (plv us c) ∈ rowL (kLs n l) (plv us a)
                · skip
                  refine (mhas g cr R (us.length : Int) rs (kLs n l) (plv us a) (plv us c) _ (hm.old0 HS) hR (by omega) (by omega)).mono ?_
                  rintro e W7 ⟨rfl, H_⟩
                  rw [decide_eq_true hroc]
                  refine ⟨_, rfl, ?_⟩
                  replace HS : St W (owns []) W7 [] := HS.join (F := []) (G := []) H_
                  clear H_
                  refine ql (.bool true) (by kernel_rfl) (by kernel_rfl) ?_
                  refine ql (.bool true) (by kernel_rfl) (by kernel_rfl) ?_
                  refine ql (.bool true) (by kernel_rfl) (by kernel_rfl) ?_
                  refine wpList_nil ?_
                  refine x_then ?_
                  refine wp_ret ?_
                  refine ret_ (.bool true) (by kernel_rfl) ?_
                  exact ⟨by rw [knB_eq his_a his_c hc3 hc4, ← hus]; simp only [decide_eq_true hin_a, decide_eq_true hin_c, decide_eq_false hro0, decide_eq_true hroc, Bool.true_and, Bool.false_and, Bool.true_or, Bool.false_or, Bool.and_true, Bool.and_false, Bool.or_false, Bool.or_true, Bool.or_self], HS⟩
                · skip
                  refine (mhas g cr R (us.length : Int) rs (kLs n l) (plv us a) (plv us c) _ (hm.old0 HS) hR (by omega) (by omega)).mono ?_
                  rintro e W8 ⟨rfl, H_⟩
                  rw [decide_eq_false hroc]
                  refine ⟨_, rfl, ?_⟩
                  replace HS : St W (owns []) W8 [] := HS.join (F := []) (G := []) H_
                  clear H_
                  refine ql (.bool false) (by kernel_rfl) (by kernel_rfl) ?_
                  refine ql (.bool false) (by kernel_rfl) (by kernel_rfl) ?_
                  refine ql (.bool false) (by kernel_rfl) (by kernel_rfl) ?_
                  refine wpList_nil ?_
                  refine x_then ?_
                  refine wp_ret ?_
                  refine ret_ (.bool false) (by kernel_rfl) ?_
                  exact ⟨by rw [knB_eq his_a his_c hc3 hc4, ← hus]; simp only [decide_eq_true hin_a, decide_eq_true hin_c, decide_eq_false hro0, decide_eq_false hroc, Bool.true_and, Bool.false_and, Bool.true_or, Bool.false_or, Bool.and_true, Bool.and_false, Bool.or_false, Bool.or_true, Bool.or_self], HS⟩
        · skip
          refine ql (.tuple #[.int .i64 (plv us c), .bool false]) (by kernel_rfl) (R_eq (R_lookOk (b := b) (us := us) (i := c) (mpl_old hpl HS) (Maps.int_keyed Try.underlying3) Try.underlying80 Try.underlying3 (by kernel_rfl) (by kernel_rfl) (by kernel_rfl) (Maps.keyOf_int_mk Try.underlying3 (WalkArith.wf_i64 (by omega)))) (by rw [decide_eq_false hin_c])) ?_
          refine ql (.tuple #[.int .i64 (plv us c), .bool false]) (by kernel_rfl) (by kernel_rfl) ?_
          refine ql (.int .i64 (plv us c)) (by kernel_rfl) (by kernel_rfl) ?_
          refine ql (.bool false) (by kernel_rfl) (by kernel_rfl) ?_
          refine ql (.int .i64 (plv us c)) (by kernel_rfl) (by kernel_rfl) ?_
          refine ql (.bool false) (by kernel_rfl) (by kernel_rfl) ?_
          refine wpList_nil ?_
          refine x_then ?_
          refine wp_seq ?_
          refine wp_block ?_
          refine wp_seq ?_
          refine wp_seq ?_
          refine wp_region_lit ?_
          refine ql (.int .i64 a) (by kernel_rfl) (by kernel_rfl) ?_
          refine ql (.int .i64 c) (by kernel_rfl) (by kernel_rfl) ?_
          by_cases hc9 : a = c
          · skip
            refine ql (.bool true) (by kernel_rfl) (R_beq (b := (a == c)) (by kernel_rfl) (beq_t (hc9))) ?_
            refine ql (.bool true) (by kernel_rfl) (by kernel_rfl) ?_
            refine wpList_nil ?_
            refine x_then ?_
            refine wp_cond_true (by kernel_rfl) ?_
            refine wp_skip ?_
            refine x_then ?_
            refine wp_cond_true (by kernel_rfl) ?_
            refine wp_seq ?_
            refine wp_region_lit ?_
            refine ql (.bool true) (by kernel_rfl) (by kernel_rfl) ?_
            refine wpList_nil ?_
            refine x_then ?_
            refine wp_ret ?_
            refine x_inbR ?_
            refine x_thenR ?_
            refine ret_ (.bool true) (by kernel_rfl) ?_
            exact ⟨by rw [knB_same his_a hc9], HS⟩
          · skip
            refine ql (.bool false) (by kernel_rfl) (R_beq (b := (a == c)) (by kernel_rfl) (beq_f (hc9))) ?_
            refine ql (.bool false) (by kernel_rfl) (by kernel_rfl) ?_
            refine wpList_nil ?_
            refine x_then ?_
            refine wp_cond_false (by kernel_rfl) ?_
            refine wp_region_lit ?_
            refine ql (.int .i64 a) (by kernel_rfl) (by kernel_rfl) ?_
            by_cases hc10 : a = (0 : Int)
            · skip
              refine ql (.bool true) (by kernel_rfl) (R_beq (b := (a == (0 : Int))) (by kernel_rfl) (beq_t (hc10))) ?_
              refine ql (.bool true) (by kernel_rfl) (by kernel_rfl) ?_
              refine wpList_nil ?_
              refine x_then ?_
              refine wp_cond_true (by kernel_rfl) ?_
              refine wp_seq ?_
              refine wp_region_lit ?_
              refine ql (.bool true) (by kernel_rfl) (by kernel_rfl) ?_
              refine wpList_nil ?_
              refine x_then ?_
              refine wp_ret ?_
              refine x_inbR ?_
              refine x_thenR ?_
              refine ret_ (.bool true) (by kernel_rfl) ?_
              exact ⟨by rw [hc10, knB_zero his_c.1 his_c.2], HS⟩
            · skip
              refine ql (.bool false) (by kernel_rfl) (R_beq (b := (a == (0 : Int))) (by kernel_rfl) (beq_f (hc10))) ?_
              refine ql (.bool false) (by kernel_rfl) (by kernel_rfl) ?_
              refine wpList_nil ?_
              refine x_then ?_
              refine wp_cond_false (by kernel_rfl) ?_
              refine wp_seq ?_
              refine wp_region_lit ?_
              refine ql (.bool true) (by kernel_rfl) (by kernel_rfl) ?_
              refine ql (.bool false) (by kernel_rfl) (by kernel_rfl) ?_
              refine ql (.bool false) (by kernel_rfl) (by kernel_rfl) ?_
              refine wpList_nil ?_
              refine x_then ?_
              refine wp_cond_false (by kernel_rfl) ?_
              refine wp_skip ?_
              refine x_inb ?_
              refine x_then ?_
              refine wp_seq ?_
              refine wp_region_lit ?_
              refine ql (.pointer (some ⟨k, 0, none⟩)) (by kernel_rfl) (by kernel_rfl) ?_
              refine ql (.pointer (some ⟨k, 0, none⟩)) (by kernel_rfl) (by kernel_rfl) ?_
              refine ql (.pointer (some ⟨k, 2, none⟩)) (by kernel_rfl) (by kernel_rfl) ?_
              refine ql (.pointer (some ⟨g, 0, none⟩)) (by kernel_rfl) (R_load (p := ⟨k, 2, none⟩) (by kernel_rfl) (by kernel_rfl) (by kernel_rfl) (HS.old0 hk2)) ?_
              refine ql (.int .i64 (plv us a)) (by kernel_rfl) (by kernel_rfl) ?_
              refine qc (f := 59) (args := #[.pointer (some ⟨g, 0, none⟩), .int .i64 (plv us a), .int .i64 0]) (by kernel_rfl) (R_call #[.pointer (some ⟨g, 0, none⟩), .int .i64 (plv us a), .int .i64 0] Try.func59 (by kernel_rfl) (by kernel_rfl) (by kernel_rfl)) ?_
              by_cases hro0 : 0 ∈ rowL (kLs n l) (plv us a)
              · skip
                refine (mhas g cr R (us.length : Int) rs (kLs n l) (plv us a) 0 _ (hm.old0 HS) hR (by omega) (by omega)).mono ?_
                rintro e W11 ⟨rfl, H_⟩
                rw [decide_eq_true hro0]
                refine ⟨_, rfl, ?_⟩
                replace HS : St W (owns []) W11 [] := HS.join (F := []) (G := []) H_
                clear H_
                refine ql (.bool true) (by kernel_rfl) (by kernel_rfl) ?_
                refine qln (by kernel_rfl) ?_
                refine qln (by kernel_rfl) ?_
                refine qln (by kernel_rfl) ?_
                refine qln (by kernel_rfl) ?_
                refine qln (by kernel_rfl) ?_
                refine qln (by kernel_rfl) ?_
                refine qln (by kernel_rfl) ?_
                refine qln (by kernel_rfl) ?_
                refine qln (by kernel_rfl) ?_
                refine qln (by kernel_rfl) ?_
                refine ql (.bool true) (by kernel_rfl) (by kernel_rfl) ?_
                refine ql (.bool true) (by kernel_rfl) (by kernel_rfl) ?_
                refine wpList_nil ?_
                refine x_then ?_
                refine wp_ret ?_
                refine ret_ (.bool true) (by kernel_rfl) ?_
                exact ⟨by rw [knB_eq his_a his_c hc9 hc10, ← hus]; simp only [decide_eq_true hin_a, decide_eq_false hin_c, decide_eq_true hro0, Bool.true_and, Bool.false_and, Bool.true_or, Bool.false_or, Bool.and_true, Bool.and_false, Bool.or_false, Bool.or_true, Bool.or_self], HS⟩
              · skip
                refine (mhas g cr R (us.length : Int) rs (kLs n l) (plv us a) 0 _ (hm.old0 HS) hR (by omega) (by omega)).mono ?_
                rintro e W12 ⟨rfl, H_⟩
                rw [decide_eq_false hro0]
                refine ⟨_, rfl, ?_⟩
                replace HS : St W (owns []) W12 [] := HS.join (F := []) (G := []) H_
                clear H_
                refine ql (.bool false) (by kernel_rfl) (by kernel_rfl) ?_
                refine ql (.bool false) (by kernel_rfl) (by kernel_rfl) ?_
                refine ql (.bool false) (by kernel_rfl) (by kernel_rfl) ?_
                refine qln (by kernel_rfl) ?_
                refine qln (by kernel_rfl) ?_
                refine qln (by kernel_rfl) ?_
                refine qln (by kernel_rfl) ?_
                refine qln (by kernel_rfl) ?_
                refine qln (by kernel_rfl) ?_
                refine qln (by kernel_rfl) ?_
                refine ql (.bool false) (by kernel_rfl) (by kernel_rfl) ?_
                refine ql (.bool false) (by kernel_rfl) (by kernel_rfl) ?_
                refine ql (.bool false) (by kernel_rfl) (by kernel_rfl) ?_
                refine wpList_nil ?_
                refine x_then ?_
                refine wp_ret ?_
                refine ret_ (.bool false) (by kernel_rfl) ?_
                exact ⟨by rw [knB_eq his_a his_c hc9 hc10, ← hus]; simp only [decide_eq_true hin_a, decide_eq_false hin_c, decide_eq_false hro0, Bool.true_and, Bool.false_and, Bool.true_or, Bool.false_or, Bool.and_true, Bool.and_false, Bool.or_false, Bool.or_true, Bool.or_self], HS⟩
      · skip
        refine ql (.tuple #[.int .i64 (plv us a), .bool false]) (by kernel_rfl) (R_eq (R_lookOk (b := b) (us := us) (i := a) (mpl_old hpl HS) (Maps.int_keyed Try.underlying3) Try.underlying80 Try.underlying3 (by kernel_rfl) (by kernel_rfl) (by kernel_rfl) (Maps.keyOf_int_mk Try.underlying3 (WalkArith.wf_i64 (by omega)))) (by rw [decide_eq_false hin_a])) ?_
        refine ql (.tuple #[.int .i64 (plv us a), .bool false]) (by kernel_rfl) (by kernel_rfl) ?_
        refine ql (.int .i64 (plv us a)) (by kernel_rfl) (by kernel_rfl) ?_
        refine ql (.bool false) (by kernel_rfl) (by kernel_rfl) ?_
        refine ql (.int .i64 (plv us a)) (by kernel_rfl) (by kernel_rfl) ?_
        refine ql (.bool false) (by kernel_rfl) (by kernel_rfl) ?_
        refine wpList_nil ?_
        refine x_then ?_
        refine wp_seq ?_
        refine wp_region_lit ?_
        refine ql (.pointer (some ⟨k, 0, none⟩)) (by kernel_rfl) (by kernel_rfl) ?_
        refine ql (.pointer (some ⟨k, 0, none⟩)) (by kernel_rfl) (by kernel_rfl) ?_
        refine ql (.pointer (some ⟨k, 1, none⟩)) (by kernel_rfl) (by kernel_rfl) ?_
        refine ql (.map (some b)) (by kernel_rfl) (R_load (p := ⟨k, 1, none⟩) (by kernel_rfl) (by kernel_rfl) (by kernel_rfl) (HS.old0 hk1)) ?_
        refine ql (.int .i64 c) (by kernel_rfl) (by kernel_rfl) ?_
        by_cases hin_c : c ∈ us
        · skip
          refine ql (.tuple #[.int .i64 (plv us c), .bool true]) (by kernel_rfl) (R_eq (R_lookOk (b := b) (us := us) (i := c) (mpl_old hpl HS) (Maps.int_keyed Try.underlying3) Try.underlying80 Try.underlying3 (by kernel_rfl) (by kernel_rfl) (by kernel_rfl) (Maps.keyOf_int_mk Try.underlying3 (WalkArith.wf_i64 (by omega)))) (by rw [decide_eq_true hin_c])) ?_
          refine ql (.tuple #[.int .i64 (plv us c), .bool true]) (by kernel_rfl) (by kernel_rfl) ?_
          refine ql (.int .i64 (plv us c)) (by kernel_rfl) (by kernel_rfl) ?_
          refine ql (.bool true) (by kernel_rfl) (by kernel_rfl) ?_
          refine ql (.int .i64 (plv us c)) (by kernel_rfl) (by kernel_rfl) ?_
          refine ql (.bool true) (by kernel_rfl) (by kernel_rfl) ?_
          refine wpList_nil ?_
          refine x_then ?_
          refine wp_seq ?_
          refine wp_block ?_
          refine wp_seq ?_
          refine wp_seq ?_
          refine wp_region_lit ?_
          refine ql (.int .i64 a) (by kernel_rfl) (by kernel_rfl) ?_
          refine ql (.int .i64 c) (by kernel_rfl) (by kernel_rfl) ?_
          by_cases hc13 : a = c
          · skip
            refine ql (.bool true) (by kernel_rfl) (R_beq (b := (a == c)) (by kernel_rfl) (beq_t (hc13))) ?_
            refine ql (.bool true) (by kernel_rfl) (by kernel_rfl) ?_
            refine wpList_nil ?_
            refine x_then ?_
            refine wp_cond_true (by kernel_rfl) ?_
            refine wp_skip ?_
            refine x_then ?_
            refine wp_cond_true (by kernel_rfl) ?_
            refine wp_seq ?_
            refine wp_region_lit ?_
            refine ql (.bool true) (by kernel_rfl) (by kernel_rfl) ?_
            refine wpList_nil ?_
            refine x_then ?_
            refine wp_ret ?_
            refine x_inbR ?_
            refine x_thenR ?_
            refine ret_ (.bool true) (by kernel_rfl) ?_
            exact ⟨by rw [knB_same his_a hc13], HS⟩
          · skip
            refine ql (.bool false) (by kernel_rfl) (R_beq (b := (a == c)) (by kernel_rfl) (beq_f (hc13))) ?_
            refine ql (.bool false) (by kernel_rfl) (by kernel_rfl) ?_
            refine wpList_nil ?_
            refine x_then ?_
            refine wp_cond_false (by kernel_rfl) ?_
            refine wp_region_lit ?_
            refine ql (.int .i64 a) (by kernel_rfl) (by kernel_rfl) ?_
            by_cases hc14 : a = (0 : Int)
            · skip
              refine ql (.bool true) (by kernel_rfl) (R_beq (b := (a == (0 : Int))) (by kernel_rfl) (beq_t (hc14))) ?_
              refine ql (.bool true) (by kernel_rfl) (by kernel_rfl) ?_
              refine wpList_nil ?_
              refine x_then ?_
              refine wp_cond_true (by kernel_rfl) ?_
              refine wp_seq ?_
              refine wp_region_lit ?_
              refine ql (.bool true) (by kernel_rfl) (by kernel_rfl) ?_
              refine wpList_nil ?_
              refine x_then ?_
              refine wp_ret ?_
              refine x_inbR ?_
              refine x_thenR ?_
              refine ret_ (.bool true) (by kernel_rfl) ?_
              exact ⟨by rw [hc14, knB_zero his_c.1 his_c.2], HS⟩
            · skip
              refine ql (.bool false) (by kernel_rfl) (R_beq (b := (a == (0 : Int))) (by kernel_rfl) (beq_f (hc14))) ?_
              refine ql (.bool false) (by kernel_rfl) (by kernel_rfl) ?_
              refine wpList_nil ?_
              refine x_then ?_
              refine wp_cond_false (by kernel_rfl) ?_
              refine wp_seq ?_
              refine wp_region_lit ?_
              refine ql (.bool false) (by kernel_rfl) (by kernel_rfl) ?_
              refine ql (.bool true) (by kernel_rfl) (by kernel_rfl) ?_
              refine ql (.bool true) (by kernel_rfl) (by kernel_rfl) ?_
              refine wpList_nil ?_
              refine x_then ?_
              refine wp_cond_true (by kernel_rfl) ?_
              refine wp_seq ?_
              refine wp_region_lit ?_
              refine ql (.bool false) (by kernel_rfl) (by kernel_rfl) ?_
              refine wpList_nil ?_
              refine x_then ?_
              refine wp_ret ?_
              refine x_inbR ?_
              refine x_thenR ?_
              refine ret_ (.bool false) (by kernel_rfl) ?_
              exact ⟨by rw [knB_eq his_a his_c hc13 hc14, ← hus]; simp only [decide_eq_false hin_a, decide_eq_true hin_c, Bool.true_and, Bool.false_and, Bool.true_or, Bool.false_or, Bool.and_true, Bool.and_false, Bool.or_false, Bool.or_true, Bool.or_self], HS⟩
        · skip
          refine ql (.tuple #[.int .i64 (plv us c), .bool false]) (by kernel_rfl) (R_eq (R_lookOk (b := b) (us := us) (i := c) (mpl_old hpl HS) (Maps.int_keyed Try.underlying3) Try.underlying80 Try.underlying3 (by kernel_rfl) (by kernel_rfl) (by kernel_rfl) (Maps.keyOf_int_mk Try.underlying3 (WalkArith.wf_i64 (by omega)))) (by rw [decide_eq_false hin_c])) ?_
          refine ql (.tuple #[.int .i64 (plv us c), .bool false]) (by kernel_rfl) (by kernel_rfl) ?_
          refine ql (.int .i64 (plv us c)) (by kernel_rfl) (by kernel_rfl) ?_
          refine ql (.bool false) (by kernel_rfl) (by kernel_rfl) ?_
          refine ql (.int .i64 (plv us c)) (by kernel_rfl) (by kernel_rfl) ?_
          refine ql (.bool false) (by kernel_rfl) (by kernel_rfl) ?_
          refine wpList_nil ?_
          refine x_then ?_
          refine wp_seq ?_
          refine wp_block ?_
          refine wp_seq ?_
          refine wp_seq ?_
          refine wp_region_lit ?_
          refine ql (.int .i64 a) (by kernel_rfl) (by kernel_rfl) ?_
          refine ql (.int .i64 c) (by kernel_rfl) (by kernel_rfl) ?_
          by_cases hc15 : a = c
          · skip
            refine ql (.bool true) (by kernel_rfl) (R_beq (b := (a == c)) (by kernel_rfl) (beq_t (hc15))) ?_
            refine ql (.bool true) (by kernel_rfl) (by kernel_rfl) ?_
            refine wpList_nil ?_
            refine x_then ?_
            refine wp_cond_true (by kernel_rfl) ?_
            refine wp_skip ?_
            refine x_then ?_
            refine wp_cond_true (by kernel_rfl) ?_
            refine wp_seq ?_
            refine wp_region_lit ?_
            refine ql (.bool true) (by kernel_rfl) (by kernel_rfl) ?_
            refine wpList_nil ?_
            refine x_then ?_
            refine wp_ret ?_
            refine x_inbR ?_
            refine x_thenR ?_
            refine ret_ (.bool true) (by kernel_rfl) ?_
            exact ⟨by rw [knB_same his_a hc15], HS⟩
          · skip
            refine ql (.bool false) (by kernel_rfl) (R_beq (b := (a == c)) (by kernel_rfl) (beq_f (hc15))) ?_
            refine ql (.bool false) (by kernel_rfl) (by kernel_rfl) ?_
            refine wpList_nil ?_
            refine x_then ?_
            refine wp_cond_false (by kernel_rfl) ?_
            refine wp_region_lit ?_
            refine ql (.int .i64 a) (by kernel_rfl) (by kernel_rfl) ?_
            by_cases hc16 : a = (0 : Int)
            · skip
              refine ql (.bool true) (by kernel_rfl) (R_beq (b := (a == (0 : Int))) (by kernel_rfl) (beq_t (hc16))) ?_
              refine ql (.bool true) (by kernel_rfl) (by kernel_rfl) ?_
              refine wpList_nil ?_
              refine x_then ?_
              refine wp_cond_true (by kernel_rfl) ?_
              refine wp_seq ?_
              refine wp_region_lit ?_
              refine ql (.bool true) (by kernel_rfl) (by kernel_rfl) ?_
              refine wpList_nil ?_
              refine x_then ?_
              refine wp_ret ?_
              refine x_inbR ?_
              refine x_thenR ?_
              refine ret_ (.bool true) (by kernel_rfl) ?_
              exact ⟨by rw [hc16, knB_zero his_c.1 his_c.2], HS⟩
            · skip
              refine ql (.bool false) (by kernel_rfl) (R_beq (b := (a == (0 : Int))) (by kernel_rfl) (beq_f (hc16))) ?_
              refine ql (.bool false) (by kernel_rfl) (by kernel_rfl) ?_
              refine wpList_nil ?_
              refine x_then ?_
              refine wp_cond_false (by kernel_rfl) ?_
              refine wp_seq ?_
              refine wp_region_lit ?_
              refine ql (.bool false) (by kernel_rfl) (by kernel_rfl) ?_
              refine ql (.bool true) (by kernel_rfl) (by kernel_rfl) ?_
              refine ql (.bool true) (by kernel_rfl) (by kernel_rfl) ?_
              refine wpList_nil ?_
              refine x_then ?_
              refine wp_cond_true (by kernel_rfl) ?_
              refine wp_seq ?_
              refine wp_region_lit ?_
              refine ql (.bool false) (by kernel_rfl) (by kernel_rfl) ?_
              refine wpList_nil ?_
              refine x_then ?_
              refine wp_ret ?_
              refine x_inbR ?_
              refine x_thenR ?_
              refine ret_ (.bool false) (by kernel_rfl) ?_
              exact ⟨by rw [knB_eq his_a his_c hc15 hc16, ← hus]; simp only [decide_eq_false hin_a, decide_eq_false hin_c, Bool.true_and, Bool.false_and, Bool.true_or, Bool.false_or, Bool.and_true, Bool.and_false, Bool.or_false, Bool.or_true, Bool.or_self], HS⟩
    · skip
      refine (kis_f k n c _ (HS.old0 hk0) his_c).mono ?_
      rintro e W17 ⟨rfl, H_⟩
      refine ⟨_, rfl, ?_⟩
      replace HS : St W (owns []) W17 [] := HS.join (F := []) (G := []) H_
      clear H_
      refine ql (.bool true) (by kernel_rfl) (by kernel_rfl) ?_
      refine ql (.bool true) (by kernel_rfl) (by kernel_rfl) ?_
      refine wpList_nil ?_
      refine x_then ?_
      refine wp_cond_true (by kernel_rfl) ?_
      refine wp_seq ?_
      refine wp_region_lit ?_
      refine ql (.bool false) (by kernel_rfl) (by kernel_rfl) ?_
      refine wpList_nil ?_
      refine x_then ?_
      refine wp_ret ?_
      refine x_thenR ?_
      refine ret_ (.bool false) (by kernel_rfl) ?_
      exact ⟨by rw [knB_out (by omega)], HS⟩
  · skip
    refine (kis_f k n a _ (HS.old0 hk0) his_a).mono ?_
    rintro e W18 ⟨rfl, H_⟩
    refine ⟨_, rfl, ?_⟩
    replace HS : St W (owns []) W18 [] := HS.join (F := []) (G := []) H_
    clear H_
    refine ql (.bool true) (by kernel_rfl) (by kernel_rfl) ?_
    refine ql (.bool true) (by kernel_rfl) (by kernel_rfl) ?_
    refine qln (by kernel_rfl) ?_
    refine qln (by kernel_rfl) ?_
    refine qln (by kernel_rfl) ?_
    refine qln (by kernel_rfl) ?_
    refine ql (.bool true) (by kernel_rfl) (by kernel_rfl) ?_
    refine wpList_nil ?_
    refine x_then ?_
    refine wp_cond_true (by kernel_rfl) ?_
    refine wp_seq ?_
    refine wp_region_lit ?_
    refine ql (.bool false) (by kernel_rfl) (by kernel_rfl) ?_
    refine wpList_nil ?_
    refine x_then ?_
    refine wp_ret ?_
    refine x_thenR ?_
    refine ret_ (.bool false) (by kernel_rfl) ?_
    exact ⟨by rw [knB_out (by omega)], HS⟩

set_option maxRecDepth 100000 in
set_option maxHeartbeats 1000000 in
theorem idxf (gf : Nat) (lb : Array Value) (p : Int × Int → Bool) (Al : Option Addr) (cl : Nat) (l : List (Int × Int)) (W : World) (hra : Rd W Al (cf prC l)) (hll : l.length ≤ 10000) (hen : Enters Try.prog gf) (hcl : ∀ (x : Int × Int) (w : World), Kpt (owns []) W w → Calls Try.prog gf (#[.agg #[.int .i64 x.1, .int .i64 x.2]] ++ lb) w fun e w' => e = .returned (.bool (p x)) ∧ St w (owns []) w' []) : Calls Try.prog 77 #[.slice Al l.length cl, .func (.func gf) #[] lb] W fun e W' => ∃ k : Int, e = .returned (.int .i64 k) ∧ ((k = -1 ∧ NoP p l l.length) ∨ (0 ≤ k ∧ k < l.length ∧ NoP p l k ∧ p (gx l k) = true)) ∧ St W (owns []) W' [] := by
  have HS : St W (owns []) W [] := St.start W _
  refine calls_enter [.slice Al l.length cl, .func (.func gf) #[] lb, undef, undef, undef, undef, undef, undef, undef, undef, undef, undef, undef, undef, undef, undef, undef, undef, undef] Try.func77 rfl (by kernel_rfl) ?_
  refine wp_seq ?_
  refine wp_region_lit ?_
  refine ql (.int .i64 0) (by kernel_rfl) (by kernel_rfl) ?_
  refine wpList_nil ?_
  refine x_then ?_
  refine wp_seq ?_
  refine wp_seq ?_
  refine wp_region_lit ?_
  refine ql (.slice Al l.length cl) (by kernel_rfl) (by kernel_rfl) ?_
  refine ql (.int .i64 (l.length : Int)) (by kernel_rfl) (by kernel_rfl) ?_
  refine ql (.int .i64 0) (by kernel_rfl) (by kernel_rfl) ?_
  refine wpList_nil ?_
  refine x_then ?_
  refine wp_block ?_
  refine wp_loop_ghost (fun kq a' w' => ∃ (J1 : Nat → Value) (k : Int) , a' = Fr [.slice Al l.length cl, .func (.func gf) #[] lb, undef, undef, (J1 4), (J1 5), .slice Al l.length cl, .int .i64 (l.length : Int), .int .i64 k, (J1 9), (J1 10), (J1 11), (J1 12), (J1 13), (J1 14), (J1 15), (J1 16), (J1 17), (J1 18)] ∧ kq = (l.length - (k).toNat) ∧ (0 ≤ k) ∧ (k ≤ l.length) ∧ (NoP p l k) ∧ St W (owns []) w' []) (l.length - ((0 : Int)).toNat) ⟨(fun k_ : Nat => List.getD [.slice Al l.length cl, .func (.func gf) #[] lb, undef, undef, .int .i64 0, undef, .slice Al l.length cl, .int .i64 (l.length : Int), .int .i64 0, undef, undef, undef, undef, undef, undef, undef, undef, undef, undef] k_ undef), (0 : Int), congrArg Fr (by kernel_rfl), rfl, by omega, by omega, noP_0 p l, HS⟩ ?_
  clear HS
  intro kq2 a' W3 hrel
  obtain ⟨J1, k, rfl, hk, k0, k1, hN, HS⟩ := hrel
  refine wp_seq ?_
  refine wp_region_lit ?_
  by_cases hc4 : k < (l.length : Int)
  · skip
    refine ql (.bool true) (by kernel_rfl) (R_bool (p := k < (l.length : Int)) (by kernel_rfl) (hc4)) ?_
    refine wpList_nil ?_
    refine x_then ?_
    refine wp_seq ?_
    refine wp_cond_true (by kernel_rfl) ?_
    refine wp_skip ?_
    refine x_then ?_
    refine wp_seq ?_
    refine wp_block ?_
    refine wp_seq ?_
    refine wp_region_lit ?_
    refine ql (.int .i64 k) (by kernel_rfl) (by kernel_rfl) ?_
    refine ql (.int .i64 k) (by kernel_rfl) (by kernel_rfl) ?_
    refine wpList_nil ?_
    refine x_then ?_
    refine wp_seq ?_
    refine wp_region_lit ?_
    refine ql (.func (.func gf) #[] lb) (by kernel_rfl) (by kernel_rfl) ?_
    refine ql (.slice Al l.length cl) (by kernel_rfl) (by kernel_rfl) ?_
    refine ql (.int .i64 k) (by kernel_rfl) (by kernel_rfl) ?_
    obtain ⟨ad5, rfl⟩ := Rd.isSome_ hra (by rw [cf_len (z := 2) (fun _ => rfl)]; omega)
    refine ql (.pointer (some (ad5.add (k.toNat * 2)))) (by kernel_rfl) (R_indexA (k := .i64) (p := ad5) (n := l.length) (c := cl) (i := k) (by kernel_rfl) (by kernel_rfl) Try.underlying34 (by kernel_rfl) (by omega) (by omega)) ?_
    refine ql (.agg #[.int .i64 ((gx l k).1), .int .i64 ((gx l k).2)]) (by kernel_rfl) (R_loadN (p := ad5.add (k.toNat * 2)) [.int .i64 ((gx l k).1), .int .i64 ((gx l k).2)] (by kernel_rfl) (by kernel_rfl) (by kernel_rfl) (by kernel_rfl) (HS.oldN (Rd.elem (f := prC) (fun _ => rfl) hra (gx_eq (by omega) (by omega))))) ?_
    refine qc (f := gf) (args := (#[.agg #[.int .i64 ((gx l k).1), .int .i64 ((gx l k).2)]] ++ lb)) (by kernel_rfl) (R_callvE (caps := lb) (#[.agg #[.int .i64 ((gx l k).1), .int .i64 ((gx l k).2)]] ++ lb) (by kernel_rfl) hen (by kernel_rfl)) ?_
    by_cases hv : p (gx l k) = true
    · skip
      have hpx : p (gx l k) = true := hv
      refine (hcl (gx l k) _ HS.kept).mono ?_
      rintro e W6 ⟨rfl, H_⟩
      rw [hpx]
      refine ⟨_, rfl, ?_⟩
      replace HS : St W (owns []) W6 [] := HS.join (F := []) (G := []) H_
      clear H_
      refine wpList_nil ?_
      refine x_then ?_
      refine wp_cond_true (by kernel_rfl) ?_
      refine wp_seq ?_
      refine wp_region_lit ?_
      refine ql (.int .i64 k) (by kernel_rfl) (by kernel_rfl) ?_
      refine ql (.int .i64 k) (by kernel_rfl) (by kernel_rfl) ?_
      refine wpList_nil ?_
      refine x_then ?_
      refine wp_ret ?_
      refine x_inbR ?_
      refine x_thenR ?_
      refine x_thenR ?_
      refine x_inbR ?_
      refine x_thenR ?_
      refine ret_ (.int .i64 k) (by kernel_rfl) ?_
      exact ⟨_, rfl, .inr ⟨k0, by omega, hN, hpx⟩, HS⟩
    · skip
      have hpx : p (gx l k) = false := Bool.eq_false_iff.2 hv
      refine (hcl (gx l k) _ HS.kept).mono ?_
      rintro e W7 ⟨rfl, H_⟩
      rw [hpx]
      refine ⟨_, rfl, ?_⟩
      replace HS : St W (owns []) W7 [] := HS.join (F := []) (G := []) H_
      clear H_
      refine wpList_nil ?_
      refine x_then ?_
      refine wp_cond_false (by kernel_rfl) ?_
      refine wp_skip ?_
      refine x_inb ?_
      refine x_then ?_
      refine wp_region_lit ?_
      refine ql (.int .i64 (k + 1)) (by kernel_rfl) (R_int (by kernel_rfl) (w64 (by omega))) ?_
      refine ql (.int .i64 (k + 1)) (by kernel_rfl) (by kernel_rfl) ?_
      refine wpList_nil ?_
      refine x_then ?_
      exact ⟨l.length - (k + 1).toNat, by omega, (fun k_ : Nat => List.getD [.slice (some ad5) l.length cl, .func (.func gf) #[] lb, undef, undef, (J1 4), .int .i64 k, .slice (some ad5) l.length cl, .int .i64 (l.length : Int), .int .i64 (k + 1), .bool true, .int .i64 k, .func (.func gf) #[] lb, .slice (some ad5) l.length cl, .int .i64 k, .pointer (some (ad5.add (k.toNat * 2))), .agg #[.int .i64 ((gx l k).1), .int .i64 ((gx l k).2)], .bool false, (J1 17), .int .i64 (k + 1)] k_ undef), k + 1, congrArg Fr (by kernel_rfl), rfl, by omega, by omega, noP_step hN k0 (by omega) hpx, HS⟩
  · skip
    refine ql (.bool false) (by kernel_rfl) (R_nbool (p := k < (l.length : Int)) (by kernel_rfl) (hc4)) ?_
    refine wpList_nil ?_
    refine x_then ?_
    refine wp_seq ?_
    refine wp_cond_false (by kernel_rfl) ?_
    refine wp_exit ?_
    refine x_thenE ?_
    refine x_thenE ?_
    refine x_hit ?_
    refine x_then ?_
    refine wp_seq ?_
    refine wp_region_lit ?_
    refine ql (.int .i64 (-1)) (by kernel_rfl) (by kernel_rfl) ?_
    refine wpList_nil ?_
    refine x_then ?_
    refine wp_ret ?_
    refine ret_ (.int .i64 (-1)) (by kernel_rfl) ?_
    exact ⟨_, rfl, .inl ⟨rfl, by rw [show ((l.length : Nat) : Int) = k by omega]; exact hN⟩, HS⟩

set_option maxRecDepth 100000 in
set_option maxHeartbeats 1000000 in
theorem conf (gf : Nat) (lb : Array Value) (p : Int × Int → Bool) (Al : Option Addr) (cl : Nat) (l : List (Int × Int)) (W : World) (hra : Rd W Al (cf prC l)) (hll : l.length ≤ 10000) (hen : Enters Try.prog gf) (hcl : ∀ (x : Int × Int) (w : World), Kpt (owns []) W w → Calls Try.prog gf (#[.agg #[.int .i64 x.1, .int .i64 x.2]] ++ lb) w fun e w' => e = .returned (.bool (p x)) ∧ St w (owns []) w' []) : Calls Try.prog 68 #[.slice Al l.length cl, .func (.func gf) #[] lb] W fun e W' => e = .returned (.bool (l.any p)) ∧ St W (owns []) W' [] := by
  have HS : St W (owns []) W [] := St.start W _
  refine calls_enter [.slice Al l.length cl, .func (.func gf) #[] lb, undef, undef, undef, undef, undef, undef, undef] Try.func68 rfl (by kernel_rfl) ?_
  refine wp_seq ?_
  refine wp_region_lit ?_
  refine ql (.bool false) (by kernel_rfl) (by kernel_rfl) ?_
  refine wpList_nil ?_
  refine x_then ?_
  refine wp_seq ?_
  refine wp_region_lit ?_
  refine ql (.slice Al l.length cl) (by kernel_rfl) (by kernel_rfl) ?_
  refine ql (.func (.func gf) #[] lb) (by kernel_rfl) (by kernel_rfl) ?_
  refine qc (f := 77) (args := #[.slice Al l.length cl, .func (.func gf) #[] lb]) (by kernel_rfl) (R_call #[.slice Al l.length cl, .func (.func gf) #[] lb] Try.func77 (by kernel_rfl) (by kernel_rfl) (by kernel_rfl)) ?_
  refine (idxf gf lb p Al cl l _ (hra.old0 HS) hll hen (fun x w hw => hcl x w (HS.kept.andNil hw))).mono ?_
  rintro e W1 ⟨k9, rfl, hk9, H_⟩
  refine ⟨_, rfl, ?_⟩
  replace HS : St W (owns []) W1 [] := HS.join (F := []) (G := []) H_
  clear H_
  by_cases hc2 : k9 ≥ (0 : Int)
  · skip
    refine ql (.bool true) (by kernel_rfl) (R_bool (p := k9 ≥ (0 : Int)) (by kernel_rfl) (hc2)) ?_
    refine ql (.bool true) (by kernel_rfl) (by kernel_rfl) ?_
    refine wpList_nil ?_
    refine x_then ?_
    refine wp_ret ?_
    refine ret_ (.bool true) (by kernel_rfl) ?_
    rcases hk9 with ⟨rfl, hk9⟩ | ⟨q0, q1, _, hk9⟩
    · exfalso; omega
    · exact ⟨by rw [noP_any q0 q1 hk9], HS⟩
  · skip
    refine ql (.bool false) (by kernel_rfl) (R_nbool (p := k9 ≥ (0 : Int)) (by kernel_rfl) (hc2)) ?_
    refine ql (.bool false) (by kernel_rfl) (by kernel_rfl) ?_
    refine wpList_nil ?_
    refine x_then ?_
    refine wp_ret ?_
    refine ret_ (.bool false) (by kernel_rfl) ?_
    rcases hk9 with ⟨rfl, hk9⟩ | ⟨q0, q1, _, hk9⟩
    · exact ⟨by rw [(noP_all hk9 rfl).1], HS⟩
    · exfalso; omega


end Go.Proofs.Ytdiodmdohkjafaa.GDeclTells
