/- Written for this claim by gp.py, a program of this session's, over the kit's print. Lean checks it. -/
import Derived.Test.YtdiodmdohkjafaaGSparsePlaysx0
import Derived.Test.YtdiodmdohkjafaaGSparsePlayshx
import Derived.Test.YtdiodmdohkjafaaGSparsePlayshspSparsePlaysa
import Derived.Test.YtdiodmdohkjafaaGSparsePlayshspSparsePlaysb
import Derived.WalkKit
import Derived.StillTailTactics
import Derived.Deep.LoopGhost
import Derived.KernelRfl
import Derived.Deep.OwnRows
import Derived.Laws.OwnMore
import Derived.Laws.MakeOwn
import Derived.Maps.AppendAt
import Derived.OrdersHeld
import Derived.Lib.TrailingZeros
import Derived.Laws.Bits64b
import Derived.Laws.BitsLemmas
import Derived.Laws.Entries
import Derived.RangeFuncWrites
import Derived.RangeFuncLeaves
import Derived.RangeFuncCalls
import Derived.Shelf.Abstract
import Derived.Laws.CopyRow
import Derived.Lib.Overlaps
import Derived.Lib.AppendZerosOnto
import Derived.Lib.SliceRun
import Derived.Laws.IdiomCopy
import Derived.ArgAppend
import Derived.Conc.EntryLaws
import Derived.Maps.OwnSet
import Derived.Maps.Keyed
import Derived.Maps.Views
namespace Go.Proofs.Ytdiodmdohkjafaa.GSparsePlays
open Go.RowKit Go.Proofs.YtdiodmdohkjafaaW.PrintWords Go.Proofs.YtdiodmdohkjafaaW.PrintLast Go.Proofs.YtdiodmdohkjafaaW.PrintMore
attribute [local go_sem] max2_int min2_int max_two min_two max_three min_three max_four min_four   -- for this text's walks alone
set_option linter.unusedVariables false
set_option linter.unusedSimpArgs false

--import Derived.WalkKit
--import Derived.StillTailTactics
--import Derived.Deep.LoopGhost
--import Derived.KernelRfl
--import Derived.Deep.OwnRows
--import Derived.Laws.OwnMore
--import Derived.Laws.MakeOwn
--import Derived.Maps.AppendAt
--import Derived.OrdersHeld
--import Derived.Lib.TrailingZeros
--import Derived.Laws.Bits64b
--import Derived.Laws.BitsLemmas
--import Derived.Laws.Entries
--import Derived.RangeFuncWrites
--import Derived.RangeFuncLeaves
--import Derived.RangeFuncCalls
--import Derived.Shelf.Abstract
--import Derived.Laws.CopyRow
--import Derived.Lib.Overlaps
--import Derived.Lib.AppendZerosOnto
--import Derived.Lib.SliceRun
--import Derived.Laws.IdiomCopy
--import Derived.ArgAppend
--import Derived.Conc.EntryLaws
--import Derived.Maps.OwnSet
--import Derived.Maps.Keyed
--import Derived.Maps.Views
attribute [local irreducible] wpStill wpList Code.wp TA
open Go.Shelf

set_option maxRecDepth 100000 in
set_option maxHeartbeats 1000000 in
theorem splace (g c : Nat) (A : Option Addr) (L : List Int) (i : Int) (W : World) (hz0 : W.cell? ⟨g, 0, none⟩ = some (.slice A L.length c)) (hr : Rd W A (ci .i32 L)) (hs : S31 L) (hl : L.length ≤ 100000) : Calls Try.prog 50 #[.pointer (some ⟨g, 0, none⟩), .int .i64 i] W fun e W' => e = .returned (.tuple #[.int .i64 (plc L i), .bool (decide (i ∈ L))]) ∧ St W (owns []) W' [] := by
  have HS : St W (owns []) W [] := St.start W _
  refine calls_enter [.pointer (some ⟨g, 0, none⟩), .int .i64 i, undef, undef, undef, undef, undef, undef, undef, undef, undef, undef, undef, undef, undef, undef, undef, undef, undef, undef, undef, undef, undef, undef, undef] Try.func50 rfl (by kernel_rfl) ?_
  refine wp_seq ?_
  refine wp_region_lit ?_
  refine ql (.int .i64 0) (by kernel_rfl) (by kernel_rfl) ?_
  refine ql (.bool false) (by kernel_rfl) (by kernel_rfl) ?_
  refine wpList_nil ?_
  refine x_then ?_
  refine wp_seq ?_
  refine wp_seq ?_
  refine wp_region_lit ?_
  refine ql (.pointer (some ⟨g, 0, none⟩)) (by kernel_rfl) (by kernel_rfl) ?_
  refine ql (.bool false) (by kernel_rfl) (by kernel_rfl) ?_
  refine ql (.bool false) (by kernel_rfl) (by kernel_rfl) ?_
  refine ql (.int .i64 i) (by kernel_rfl) (by kernel_rfl) ?_
  by_cases hc1 : i < (0 : Int)
  · skip
    refine ql (.bool true) (by kernel_rfl) (R_bool (p := i < (0 : Int)) (by kernel_rfl) (hc1)) ?_
    refine ql (.bool true) (by kernel_rfl) (by kernel_rfl) ?_
    refine ql (.bool true) (by kernel_rfl) (by kernel_rfl) ?_
    refine qln (by kernel_rfl) ?_
    refine qln (by kernel_rfl) ?_
    refine ql (.bool true) (by kernel_rfl) (by kernel_rfl) ?_
    refine wpList_nil ?_
    refine x_then ?_
    refine wp_cond_true (by kernel_rfl) ?_
    refine wp_seq ?_
    refine wp_region_lit ?_
    refine ql (.int .i64 0) (by kernel_rfl) (by kernel_rfl) ?_
    refine ql (.bool false) (by kernel_rfl) (by kernel_rfl) ?_
    refine wpList_nil ?_
    refine x_then ?_
    refine wp_ret ?_
    refine x_thenR ?_
    refine ret_ (.tuple #[.int .i64 0, .bool false]) (by kernel_rfl) ?_
    exact ⟨by rw [hs.plcO (by omega), decide_eq_false (hs.not_ (by omega))], HS⟩
  · skip
    refine ql (.bool false) (by kernel_rfl) (R_nbool (p := i < (0 : Int)) (by kernel_rfl) (hc1)) ?_
    refine ql (.bool false) (by kernel_rfl) (by kernel_rfl) ?_
    refine ql (.bool false) (by kernel_rfl) (by kernel_rfl) ?_
    refine ql (.int .i64 i) (by kernel_rfl) (by kernel_rfl) ?_
    by_cases hc2 : i > (2147483647 : Int)
    · skip
      refine ql (.bool true) (by kernel_rfl) (R_bool (p := i > (2147483647 : Int)) (by kernel_rfl) (hc2)) ?_
      refine ql (.bool true) (by kernel_rfl) (by kernel_rfl) ?_
      refine wpList_nil ?_
      refine x_then ?_
      refine wp_cond_true (by kernel_rfl) ?_
      refine wp_seq ?_
      refine wp_region_lit ?_
      refine ql (.int .i64 0) (by kernel_rfl) (by kernel_rfl) ?_
      refine ql (.bool false) (by kernel_rfl) (by kernel_rfl) ?_
      refine wpList_nil ?_
      refine x_then ?_
      refine wp_ret ?_
      refine x_thenR ?_
      refine ret_ (.tuple #[.int .i64 0, .bool false]) (by kernel_rfl) ?_
      exact ⟨by rw [hs.plcO (by omega), decide_eq_false (hs.not_ (by omega))], HS⟩
    · skip
      refine ql (.bool false) (by kernel_rfl) (R_nbool (p := i > (2147483647 : Int)) (by kernel_rfl) (hc2)) ?_
      refine ql (.bool false) (by kernel_rfl) (by kernel_rfl) ?_
      refine wpList_nil ?_
      refine x_then ?_
      refine wp_cond_false (by kernel_rfl) ?_
      refine wp_skip ?_
      refine x_then ?_
      refine wp_seq ?_
      refine wp_region_lit ?_
      refine ql (.pointer (some ⟨g, 0, none⟩)) (by kernel_rfl) (by kernel_rfl) ?_
      refine ql (.pointer (some ⟨g, 0, none⟩)) (by kernel_rfl) (by kernel_rfl) ?_
      refine ql (.pointer (some ⟨g, 0, none⟩)) (by kernel_rfl) (by kernel_rfl) ?_
      refine ql (.slice A L.length c) (by kernel_rfl) (R_load (p := ⟨g, 0, none⟩) (by kernel_rfl) (by kernel_rfl) (by kernel_rfl) (HS.old0 hz0)) ?_
      refine ql (.int .i64 i) (by kernel_rfl) (by kernel_rfl) ?_
      refine ql (.int .i32 i) (by kernel_rfl) (R_int (by kernel_rfl) (w32 (by omega))) ?_
      refine qc (f := 76) (args := #[.slice A L.length c, .int .i32 i]) (by kernel_rfl) (R_call #[.slice A L.length c, .int .i32 i] Try.func76 (by kernel_rfl) (by kernel_rfl) (by kernel_rfl)) ?_
      refine (sbs A c L i _ (hr.old0 HS) hl hs.1).mono ?_
      rintro e W3 ⟨rfl, H_⟩
      refine ⟨_, rfl, ?_⟩
      replace HS : St W (owns []) W3 [] := HS.join (F := []) (G := []) H_
      clear H_
      refine ql (.int .i64 (rk L i)) (by kernel_rfl) (by kernel_rfl) ?_
      refine ql (.bool (decide (i ∈ L))) (by kernel_rfl) (by kernel_rfl) ?_
      refine ql (.int .i64 (rk L i)) (by kernel_rfl) (by kernel_rfl) ?_
      refine ql (.bool (decide (i ∈ L))) (by kernel_rfl) (by kernel_rfl) ?_
      refine wpList_nil ?_
      refine x_then ?_
      refine wp_ret ?_
      refine ret_ (.tuple #[.int .i64 (rk L i), .bool (decide (i ∈ L))]) (by kernel_rfl) ?_
      exact ⟨by rw [plc_in (by omega)], HS⟩

set_option maxRecDepth 100000 in
set_option maxHeartbeats 1000000 in
theorem shas (g c : Nat) (A : Option Addr) (L : List Int) (i : Int) (W : World) (hz0 : W.cell? ⟨g, 0, none⟩ = some (.slice A L.length c)) (hr : Rd W A (ci .i32 L)) (hs : S31 L) (hl : L.length ≤ 100000) : Calls Try.prog 15 #[.pointer (some ⟨g, 0, none⟩), .int .i64 i] W fun e W' => e = .returned (.bool (decide (i ∈ L))) ∧ St W (owns []) W' [] := by
  have HS : St W (owns []) W [] := St.start W _
  refine calls_enter [.pointer (some ⟨g, 0, none⟩), .int .i64 i, undef, undef, undef, undef, undef, undef, undef, undef, undef, undef, undef, undef] Try.func15 rfl (by kernel_rfl) ?_
  refine wp_seq ?_
  refine wp_region_lit ?_
  refine ql (.bool false) (by kernel_rfl) (by kernel_rfl) ?_
  refine wpList_nil ?_
  refine x_then ?_
  refine wp_seq ?_
  refine wp_region_lit ?_
  refine ql (.pointer (some ⟨g, 0, none⟩)) (by kernel_rfl) (by kernel_rfl) ?_
  refine ql (.int .i64 i) (by kernel_rfl) (by kernel_rfl) ?_
  refine qc (f := 50) (args := #[.pointer (some ⟨g, 0, none⟩), .int .i64 i]) (by kernel_rfl) (R_call #[.pointer (some ⟨g, 0, none⟩), .int .i64 i] Try.func50 (by kernel_rfl) (by kernel_rfl) (by kernel_rfl)) ?_
  refine (splace g c A L i _ (HS.old0 hz0) (hr.old0 HS) hs hl).mono ?_
  rintro e W1 ⟨rfl, H_⟩
  refine ⟨_, rfl, ?_⟩
  replace HS : St W (owns []) W1 [] := HS.join (F := []) (G := []) H_
  clear H_
  refine ql (.tuple #[.int .i64 (plc L i), .bool (decide (i ∈ L))]) (by kernel_rfl) (by kernel_rfl) ?_
  refine ql (.int .i64 (plc L i)) (by kernel_rfl) (by kernel_rfl) ?_
  refine ql (.bool (decide (i ∈ L))) (by kernel_rfl) (by kernel_rfl) ?_
  refine ql (.int .i64 (plc L i)) (by kernel_rfl) (by kernel_rfl) ?_
  refine ql (.bool (decide (i ∈ L))) (by kernel_rfl) (by kernel_rfl) ?_
  refine wpList_nil ?_
  refine x_then ?_
  refine wp_seq ?_
  refine wp_region_lit ?_
  refine ql (.bool (decide (i ∈ L))) (by kernel_rfl) (by kernel_rfl) ?_
  refine ql (.bool (decide (i ∈ L))) (by kernel_rfl) (by kernel_rfl) ?_
  refine wpList_nil ?_
  refine x_then ?_
  refine wp_ret ?_
  refine ret_ (.bool (decide (i ∈ L))) (by kernel_rfl) ?_
  exact ⟨rfl, HS⟩

set_option maxRecDepth 100000 in
set_option maxHeartbeats 1000000 in
theorem slen (g c : Nat) (A : Option Addr) (L : List Int) (W : World) (hz0 : W.cell? ⟨g, 0, none⟩ = some (.slice A L.length c)) (hr : Rd W A (ci .i32 L)) (hs : S31 L) (hl : L.length ≤ 100000) : Calls Try.prog 13 #[.pointer (some ⟨g, 0, none⟩)] W fun e W' => e = .returned (.int .i64 (L.length : Int)) ∧ St W (owns []) W' [] := by
  have HS : St W (owns []) W [] := St.start W _
  refine calls_enter [.pointer (some ⟨g, 0, none⟩), undef, undef, undef, undef, undef, undef, undef, undef, undef] Try.func13 rfl (by kernel_rfl) ?_
  refine wp_seq ?_
  refine wp_region_lit ?_
  refine ql (.int .i64 0) (by kernel_rfl) (by kernel_rfl) ?_
  refine wpList_nil ?_
  refine x_then ?_
  refine wp_seq ?_
  refine wp_seq ?_
  refine wp_region_lit ?_
  refine ql (.pointer (some ⟨g, 0, none⟩)) (by kernel_rfl) (by kernel_rfl) ?_
  refine ql (.bool false) (by kernel_rfl) (by kernel_rfl) ?_
  refine wpList_nil ?_
  refine x_then ?_
  refine wp_cond_false (by kernel_rfl) ?_
  refine wp_skip ?_
  refine x_then ?_
  refine wp_seq ?_
  refine wp_region_lit ?_
  refine ql (.pointer (some ⟨g, 0, none⟩)) (by kernel_rfl) (by kernel_rfl) ?_
  refine ql (.pointer (some ⟨g, 0, none⟩)) (by kernel_rfl) (by kernel_rfl) ?_
  refine ql (.pointer (some ⟨g, 0, none⟩)) (by kernel_rfl) (by kernel_rfl) ?_
  refine ql (.slice A L.length c) (by kernel_rfl) (R_load (p := ⟨g, 0, none⟩) (by kernel_rfl) (by kernel_rfl) (by kernel_rfl) (HS.old0 hz0)) ?_
  refine ql (.int .i64 (L.length : Int)) (by kernel_rfl) (by kernel_rfl) ?_
  refine ql (.int .i64 (L.length : Int)) (by kernel_rfl) (by kernel_rfl) ?_
  refine wpList_nil ?_
  refine x_then ?_
  refine wp_ret ?_
  refine ret_ (.int .i64 (L.length : Int)) (by kernel_rfl) ?_
  exact ⟨rfl, HS⟩

set_option maxRecDepth 100000 in
set_option maxHeartbeats 1000000 in
theorem sat_in (g c : Nat) (A : Option Addr) (L : List Int) (k : Int) (W : World) (hz0 : W.cell? ⟨g, 0, none⟩ = some (.slice A L.length c)) (hr : Rd W A (ci .i32 L)) (hs : S31 L) (hl : L.length ≤ 100000) (h0 : 0 ≤ k) (h1 : k < L.length) : Calls Try.prog 12 #[.pointer (some ⟨g, 0, none⟩), .int .i64 k] W fun e W' => e = .returned (.tuple #[.int .i64 (rdI L k), .bool true]) ∧ St W (owns []) W' [] := by
  have HS : St W (owns []) W [] := St.start W _
  have hlx := hs.2 _ (mem_rd h0 h1)
  refine calls_enter [.pointer (some ⟨g, 0, none⟩), .int .i64 k, undef, undef, undef, undef, undef, undef, undef, undef, undef, undef, undef, undef, undef, undef, undef, undef, undef, undef, undef, undef] Try.func12 rfl (by kernel_rfl) ?_
  refine wp_seq ?_
  refine wp_region_lit ?_
  refine ql (.int .i64 0) (by kernel_rfl) (by kernel_rfl) ?_
  refine ql (.bool false) (by kernel_rfl) (by kernel_rfl) ?_
  refine wpList_nil ?_
  refine x_then ?_
  refine wp_seq ?_
  refine wp_seq ?_
  refine wp_region_lit ?_
  refine ql (.int .i64 k) (by kernel_rfl) (by kernel_rfl) ?_
  refine ql (.bool false) (by kernel_rfl) (R_nbool (p := k < (0 : Int)) (by kernel_rfl) (by omega)) ?_
  refine ql (.bool false) (by kernel_rfl) (by kernel_rfl) ?_
  refine ql (.int .i64 k) (by kernel_rfl) (by kernel_rfl) ?_
  refine ql (.pointer (some ⟨g, 0, none⟩)) (by kernel_rfl) (by kernel_rfl) ?_
  refine qc (f := 13) (args := #[.pointer (some ⟨g, 0, none⟩)]) (by kernel_rfl) (R_call #[.pointer (some ⟨g, 0, none⟩)] Try.func13 (by kernel_rfl) (by kernel_rfl) (by kernel_rfl)) ?_
  refine (slen g c A L _ (HS.old0 hz0) (hr.old0 HS) hs hl).mono ?_
  rintro e W1 ⟨rfl, H_⟩
  refine ⟨_, rfl, ?_⟩
  replace HS : St W (owns []) W1 [] := HS.join (F := []) (G := []) H_
  clear H_
  refine ql (.bool false) (by kernel_rfl) (R_nbool (p := k ≥ (L.length : Int)) (by kernel_rfl) (by omega)) ?_
  refine ql (.bool false) (by kernel_rfl) (by kernel_rfl) ?_
  refine wpList_nil ?_
  refine x_then ?_
  refine wp_cond_false (by kernel_rfl) ?_
  refine wp_skip ?_
  refine x_then ?_
  refine wp_seq ?_
  refine wp_region_lit ?_
  refine ql (.pointer (some ⟨g, 0, none⟩)) (by kernel_rfl) (by kernel_rfl) ?_
  refine ql (.pointer (some ⟨g, 0, none⟩)) (by kernel_rfl) (by kernel_rfl) ?_
  refine ql (.pointer (some ⟨g, 0, none⟩)) (by kernel_rfl) (by kernel_rfl) ?_
  refine ql (.slice A L.length c) (by kernel_rfl) (R_load (p := ⟨g, 0, none⟩) (by kernel_rfl) (by kernel_rfl) (by kernel_rfl) (HS.old0 hz0)) ?_
  refine ql (.int .i64 k) (by kernel_rfl) (by kernel_rfl) ?_
  obtain ⟨ad2, rfl⟩ := Rd.isSome_ hr (by rw [ci_len]; omega)
  refine ql (.pointer (some (ad2.add k.toNat))) (by kernel_rfl) (R_indexA1 (k := .i64) (p := ad2) (n := L.length) (c := c) (i := k) (by kernel_rfl) (by kernel_rfl) Try.underlying75 (by kernel_rfl) (by omega) (by omega)) ?_
  refine ql (.int .i32 (rdI L k)) (by kernel_rfl) (R_load (p := ad2.add k.toNat) (by kernel_rfl) (by kernel_rfl) (by kernel_rfl) (HS.old0 (hr.at_ (ci_rd (i := k) (by omega) (by omega))))) ?_
  refine ql (.int .i64 (rdI L k)) (by kernel_rfl) (R_int (by kernel_rfl) (w64 (by omega))) ?_
  refine ql (.int .i64 (rdI L k)) (by kernel_rfl) (by kernel_rfl) ?_
  refine ql (.bool true) (by kernel_rfl) (by kernel_rfl) ?_
  refine wpList_nil ?_
  refine x_then ?_
  refine wp_ret ?_
  refine ret_ (.tuple #[.int .i64 (rdI L k), .bool true]) (by kernel_rfl) ?_
  exact ⟨rfl, HS⟩

set_option maxRecDepth 100000 in
set_option maxHeartbeats 1000000 in
theorem srank (g c : Nat) (A : Option Addr) (L : List Int) (i : Int) (W : World) (hz0 : W.cell? ⟨g, 0, none⟩ = some (.slice A L.length c)) (hr : Rd W A (ci .i32 L)) (hs : S31 L) (hl : L.length ≤ 100000) : Calls Try.prog 14 #[.pointer (some ⟨g, 0, none⟩), .int .i64 i] W fun e W' => e = .returned (.int .i64 (rk L i)) ∧ St W (owns []) W' [] := by
  have HS : St W (owns []) W [] := St.start W _
  refine calls_enter [.pointer (some ⟨g, 0, none⟩), .int .i64 i, undef, undef, undef, undef, undef, undef, undef, undef, undef, undef, undef, undef, undef, undef, undef, undef] Try.func14 rfl (by kernel_rfl) ?_
  refine wp_seq ?_
  refine wp_region_lit ?_
  refine ql (.int .i64 0) (by kernel_rfl) (by kernel_rfl) ?_
  refine wpList_nil ?_
  refine x_then ?_
  refine wp_seq ?_
  refine wp_seq ?_
  refine wp_region_lit ?_
  refine ql (.int .i64 i) (by kernel_rfl) (by kernel_rfl) ?_
  by_cases hc1 : i > (2147483647 : Int)
  · skip
    refine ql (.bool true) (by kernel_rfl) (R_bool (p := i > (2147483647 : Int)) (by kernel_rfl) (hc1)) ?_
    refine wpList_nil ?_
    refine x_then ?_
    refine wp_cond_true (by kernel_rfl) ?_
    refine wp_seq ?_
    refine wp_region_lit ?_
    refine ql (.pointer (some ⟨g, 0, none⟩)) (by kernel_rfl) (by kernel_rfl) ?_
    refine qc (f := 13) (args := #[.pointer (some ⟨g, 0, none⟩)]) (by kernel_rfl) (R_call #[.pointer (some ⟨g, 0, none⟩)] Try.func13 (by kernel_rfl) (by kernel_rfl) (by kernel_rfl)) ?_
    refine (slen g c A L _ (HS.old0 hz0) (hr.old0 HS) hs hl).mono ?_
    rintro e W2 ⟨rfl, H_⟩
    refine ⟨_, rfl, ?_⟩
    replace HS : St W (owns []) W2 [] := HS.join (F := []) (G := []) H_
    clear H_
    refine ql (.int .i64 (L.length : Int)) (by kernel_rfl) (by kernel_rfl) ?_
    refine wpList_nil ?_
    refine x_then ?_
    refine wp_ret ?_
    refine x_thenR ?_
    refine ret_ (.int .i64 (L.length : Int)) (by kernel_rfl) ?_
    exact ⟨by rw [hs.rkM (by omega)], HS⟩
  · skip
    refine ql (.bool false) (by kernel_rfl) (R_nbool (p := i > (2147483647 : Int)) (by kernel_rfl) (hc1)) ?_
    refine wpList_nil ?_
    refine x_then ?_
    refine wp_cond_false (by kernel_rfl) ?_
    refine wp_skip ?_
    refine x_then ?_
    refine wp_seq ?_
    refine wp_region_lit ?_
    refine ql (.pointer (some ⟨g, 0, none⟩)) (by kernel_rfl) (by kernel_rfl) ?_
    refine ql (.int .i64 i) (by kernel_rfl) (by kernel_rfl) ?_
    refine qc (f := 50) (args := #[.pointer (some ⟨g, 0, none⟩), .int .i64 i]) (by kernel_rfl) (R_call #[.pointer (some ⟨g, 0, none⟩), .int .i64 i] Try.func50 (by kernel_rfl) (by kernel_rfl) (by kernel_rfl)) ?_
    refine (splace g c A L i _ (HS.old0 hz0) (hr.old0 HS) hs hl).mono ?_
    rintro e W3 ⟨rfl, H_⟩
    refine ⟨_, rfl, ?_⟩
    replace HS : St W (owns []) W3 [] := HS.join (F := []) (G := []) H_
    clear H_
    refine ql (.tuple #[.int .i64 (plc L i), .bool (decide (i ∈ L))]) (by kernel_rfl) (by kernel_rfl) ?_
    refine ql (.int .i64 (plc L i)) (by kernel_rfl) (by kernel_rfl) ?_
    refine ql (.bool (decide (i ∈ L))) (by kernel_rfl) (by kernel_rfl) ?_
    refine ql (.int .i64 (plc L i)) (by kernel_rfl) (by kernel_rfl) ?_
    refine ql (.bool (decide (i ∈ L))) (by kernel_rfl) (by kernel_rfl) ?_
    refine wpList_nil ?_
    refine x_then ?_
    refine wp_seq ?_
    refine wp_region_lit ?_
    refine ql (.int .i64 (plc L i)) (by kernel_rfl) (by kernel_rfl) ?_
    refine ql (.int .i64 (plc L i)) (by kernel_rfl) (by kernel_rfl) ?_
    refine wpList_nil ?_
    refine x_then ?_
    refine wp_ret ?_
    refine ret_ (.int .i64 (plc L i)) (by kernel_rfl) ?_
    exact ⟨by rw [plc_in (by omega)], HS⟩

theorem sinsert (A : Option Addr) (c gv : Nat) (L : List Int) (x p : Int) (W : World) (M : Nat → Prop) (HS : St W M W [row A L.length c (ci .i32 L) 21 1, row (some ⟨gv, 0, none⟩) 1 1 (ci .i32 [x]) 21 1]) (hl : L.length ≤ 100000) (hs : L.Pairwise (· < ·)) (hx : x ∉ L) (hp : p = rk L x) : Calls Try.prog 65 #[.slice A L.length c, .int .i64 p, .slice (some ⟨gv, 0, none⟩) 1 1] W fun e W' => ∃ A' c', e = .returned (.slice A' (ins x L).length c') ∧ St W M W' [row A' (ins x L).length c' (ci .i32 (ins x L)) 21 1] := by
  subst hp
  have h0 := rk_0 L x
  have h1 := rk_le L x
  have hi := ins_at hs hx
  obtain ⟨k, hk⟩ : ∃ k : Nat, rk L x = (k : Int) := ⟨(rk L x).toNat, by omega⟩
  rw [hk] at hi h0 h1 ⊢
  rw [Int.toNat_natCast] at hi
  rw [← hi]
  by_cases he : k = L.length
  · subst he; exact sins_end A c gv L x W M HS hl
  · obtain ⟨g, rfl⟩ := St.rsome HS (i := 0) rfl (by omega)
    have hm := (HS.rcap (i := 0) rfl).2
    obtain ⟨sp, hc, _, HS2⟩ := HS.openRow (i := 0) rfl
    exact sins_mid g c gv k L sp x W M (St.cast_ (HS2.rowBlk (i := 1) (n := 1) (cs := ci .i32 [x]) rfl) (by kernel_rfl)) hl hc hm (by omega)
theorem sdelete (A : Option Addr) (c : Nat) (L : List Int) (x p : Int) (W : World) (M : Nat → Prop) (HS : St W M W [row A L.length c (ci .i32 L) 21 1]) (hl : L.length ≤ 100000) (hs : L.Pairwise (· < ·)) (hx : x ∈ L) (hp : p = rk L x) : Calls Try.prog 66 #[.slice A L.length c, .int .i64 p, .int .i64 (p + 1)] W fun e W' => ∃ A' c', e = .returned (.slice A' (delL L x).length c') ∧ St W M W' [row A' (delL L x).length c' (ci .i32 (delL L x)) 21 1] := by
  subst hp
  have h0 := rk_0 L x
  have h1 := (rk_mem hs hx).1
  have hi := del_at hs hx
  obtain ⟨k, hk⟩ : ∃ k : Nat, rk L x = (k : Int) := ⟨(rk L x).toNat, by omega⟩
  rw [hk] at hi h0 h1 ⊢
  rw [Int.toNat_natCast, show ((k : Int) + 1).toNat = k + 1 by omega] at hi
  rw [← hi]
  obtain ⟨g, rfl⟩ := St.rsome HS (i := 0) rfl (by omega)
  have hm := (HS.rcap (i := 0) rfl).2
  obtain ⟨sp, hc, _, HS2⟩ := HS.openRow (i := 0) rfl
  exact sdel_ g c k L sp W M HS2 hl hc hm (by omega)

set_option maxRecDepth 100000 in
set_option maxHeartbeats 1000000 in
theorem sadd (g c : Nat) (A : Option Addr) (L : List Int) (i : Int) (W : World) (M : Nat → Prop) (HS : St W M W [blk g [.slice A L.length c] 77, row A L.length c (ci .i32 L) 21 1]) (hs : S31 L) (hl : L.length ≤ 90000) : Calls Try.prog 32 #[.pointer (some ⟨g, 0, none⟩), .int .i64 i] W fun e W' => ∃ A' c', e = .returned (.bool (addB 2147483648 L i)) ∧ St W M W' [blk g [.slice A' ((addL 2147483648 L i).length) c'] 77, row A' ((addL 2147483648 L i).length) c' (ci .i32 (addL 2147483648 L i)) 21 1] := by
  refine calls_enter [.pointer (some ⟨g, 0, none⟩), .int .i64 i, undef, undef, undef, undef, undef, undef, undef, undef, undef, undef, undef, undef, undef, undef, undef, undef, undef, undef, undef, undef, undef, undef, undef, undef, undef, undef, undef, undef, undef, undef, undef, undef, undef, undef, undef, undef] Try.func32 rfl (by kernel_rfl) ?_
  refine wp_seq ?_
  refine wp_region_lit ?_
  refine ql (.bool false) (by kernel_rfl) (by kernel_rfl) ?_
  refine wpList_nil ?_
  refine x_then ?_
  refine wp_seq ?_
  refine wp_region_lit ?_
  refine ql (.pointer (some ⟨g, 0, none⟩)) (by kernel_rfl) (by kernel_rfl) ?_
  refine ql (.int .i64 i) (by kernel_rfl) (by kernel_rfl) ?_
  refine qc (f := 50) (args := #[.pointer (some ⟨g, 0, none⟩), .int .i64 i]) (by kernel_rfl) (R_call #[.pointer (some ⟨g, 0, none⟩), .int .i64 i] Try.func50 (by kernel_rfl) (by kernel_rfl) (by kernel_rfl)) ?_
  by_cases hv : i ∈ L
  · skip
    have hdx : decide (i ∈ L) = true := decide_eq_true hv
    refine (splace g c A L i _ (HS.cell (i := 0) (j := 0) rfl rfl) (Rd.row HS (i := 1) rfl) hs (by omega)).mono ?_
    rintro e W1 ⟨rfl, H_⟩
    rw [hdx]
    refine ⟨_, rfl, ?_⟩
    replace HS : St W M W1 [blk g [.slice A L.length c] 77, row A L.length c (ci .i32 L) 21 1] := HS.join (F := []) (G := []) H_
    clear H_
    refine ql (.tuple #[.int .i64 (plc L i), .bool true]) (by kernel_rfl) (by kernel_rfl) ?_
    refine ql (.int .i64 (plc L i)) (by kernel_rfl) (by kernel_rfl) ?_
    refine ql (.bool true) (by kernel_rfl) (by kernel_rfl) ?_
    refine ql (.int .i64 (plc L i)) (by kernel_rfl) (by kernel_rfl) ?_
    refine ql (.bool true) (by kernel_rfl) (by kernel_rfl) ?_
    refine wpList_nil ?_
    refine x_then ?_
    refine wp_seq ?_
    refine wp_seq ?_
    refine wp_region_lit ?_
    refine ql (.bool true) (by kernel_rfl) (by kernel_rfl) ?_
    refine ql (.bool true) (by kernel_rfl) (by kernel_rfl) ?_
    refine qln (by kernel_rfl) ?_
    refine qln (by kernel_rfl) ?_
    refine ql (.bool true) (by kernel_rfl) (by kernel_rfl) ?_
    refine ql (.bool true) (by kernel_rfl) (by kernel_rfl) ?_
    refine qln (by kernel_rfl) ?_
    refine qln (by kernel_rfl) ?_
    refine ql (.bool true) (by kernel_rfl) (by kernel_rfl) ?_
    refine ql (.bool true) (by kernel_rfl) (by kernel_rfl) ?_
    refine qln (by kernel_rfl) ?_
    refine qln (by kernel_rfl) ?_
    refine ql (.bool true) (by kernel_rfl) (by kernel_rfl) ?_
    refine wpList_nil ?_
    refine x_then ?_
    refine wp_cond_true (by kernel_rfl) ?_
    refine wp_seq ?_
    refine wp_region_lit ?_
    refine ql (.bool false) (by kernel_rfl) (by kernel_rfl) ?_
    refine wpList_nil ?_
    refine x_then ?_
    refine wp_ret ?_
    refine x_thenR ?_
    refine ret_ (.bool false) (by kernel_rfl) ?_
    have ha := addL_out (n := 2147483648) (i := i) (L := L) (.inr (.inr hv))
    exact ⟨A, c, by rw [ha.2], by rw [ha.1]; exact HS⟩
  · skip
    have hdx : decide (i ∈ L) = false := decide_eq_false hv
    refine (splace g c A L i _ (HS.cell (i := 0) (j := 0) rfl rfl) (Rd.row HS (i := 1) rfl) hs (by omega)).mono ?_
    rintro e W2 ⟨rfl, H_⟩
    rw [hdx]
    refine ⟨_, rfl, ?_⟩
    replace HS : St W M W2 [blk g [.slice A L.length c] 77, row A L.length c (ci .i32 L) 21 1] := HS.join (F := []) (G := []) H_
    clear H_
    refine ql (.tuple #[.int .i64 (plc L i), .bool false]) (by kernel_rfl) (by kernel_rfl) ?_
    refine ql (.int .i64 (plc L i)) (by kernel_rfl) (by kernel_rfl) ?_
    refine ql (.bool false) (by kernel_rfl) (by kernel_rfl) ?_
    refine ql (.int .i64 (plc L i)) (by kernel_rfl) (by kernel_rfl) ?_
    refine ql (.bool false) (by kernel_rfl) (by kernel_rfl) ?_
    refine wpList_nil ?_
    refine x_then ?_
    refine wp_seq ?_
    refine wp_seq ?_
    refine wp_region_lit ?_
    refine ql (.bool false) (by kernel_rfl) (by kernel_rfl) ?_
    refine ql (.bool false) (by kernel_rfl) (by kernel_rfl) ?_
    refine ql (.pointer (some ⟨g, 0, none⟩)) (by kernel_rfl) (by kernel_rfl) ?_
    refine ql (.bool false) (by kernel_rfl) (by kernel_rfl) ?_
    refine ql (.bool false) (by kernel_rfl) (by kernel_rfl) ?_
    refine ql (.bool false) (by kernel_rfl) (by kernel_rfl) ?_
    refine ql (.int .i64 i) (by kernel_rfl) (by kernel_rfl) ?_
    by_cases hc3 : i < (0 : Int)
    · skip
      refine ql (.bool true) (by kernel_rfl) (R_bool (p := i < (0 : Int)) (by kernel_rfl) (hc3)) ?_
      refine ql (.bool true) (by kernel_rfl) (by kernel_rfl) ?_
      refine ql (.bool true) (by kernel_rfl) (by kernel_rfl) ?_
      refine qln (by kernel_rfl) ?_
      refine qln (by kernel_rfl) ?_
      refine ql (.bool true) (by kernel_rfl) (by kernel_rfl) ?_
      refine wpList_nil ?_
      refine x_then ?_
      refine wp_cond_true (by kernel_rfl) ?_
      refine wp_seq ?_
      refine wp_region_lit ?_
      refine ql (.bool false) (by kernel_rfl) (by kernel_rfl) ?_
      refine wpList_nil ?_
      refine x_then ?_
      refine wp_ret ?_
      refine x_thenR ?_
      refine ret_ (.bool false) (by kernel_rfl) ?_
      have ha := addL_out (n := 2147483648) (i := i) (L := L) (by omega)
      exact ⟨A, c, by rw [ha.2], by rw [ha.1]; exact HS⟩
    · skip
      refine ql (.bool false) (by kernel_rfl) (R_nbool (p := i < (0 : Int)) (by kernel_rfl) (hc3)) ?_
      refine ql (.bool false) (by kernel_rfl) (by kernel_rfl) ?_
      refine ql (.bool false) (by kernel_rfl) (by kernel_rfl) ?_
      refine ql (.int .i64 i) (by kernel_rfl) (by kernel_rfl) ?_
      by_cases hc4 : i > (2147483647 : Int)
      · skip
        refine ql (.bool true) (by kernel_rfl) (R_bool (p := i > (2147483647 : Int)) (by kernel_rfl) (hc4)) ?_
        refine ql (.bool true) (by kernel_rfl) (by kernel_rfl) ?_
        refine wpList_nil ?_
        refine x_then ?_
        refine wp_cond_true (by kernel_rfl) ?_
        refine wp_seq ?_
        refine wp_region_lit ?_
        refine ql (.bool false) (by kernel_rfl) (by kernel_rfl) ?_
        refine wpList_nil ?_
        refine x_then ?_
        refine wp_ret ?_
        refine x_thenR ?_
        refine ret_ (.bool false) (by kernel_rfl) ?_
        have ha := addL_out (n := 2147483648) (i := i) (L := L) (by omega)
        exact ⟨A, c, by rw [ha.2], by rw [ha.1]; exact HS⟩
      · skip
        refine ql (.bool false) (by kernel_rfl) (R_nbool (p := i > (2147483647 : Int)) (by kernel_rfl) (hc4)) ?_
        refine ql (.bool false) (by kernel_rfl) (by kernel_rfl) ?_
        refine wpList_nil ?_
        refine x_then ?_
        refine wp_cond_false (by kernel_rfl) ?_
        refine wp_skip ?_
        refine x_then ?_
        refine wp_seq ?_
        refine wp_region_lit ?_
        refine ql (.pointer (some ⟨g, 0, none⟩)) (by kernel_rfl) (by kernel_rfl) ?_
        refine ql (.pointer (some ⟨g, 0, none⟩)) (by kernel_rfl) (by kernel_rfl) ?_
        refine ql (.pointer (some ⟨g, 0, none⟩)) (by kernel_rfl) (by kernel_rfl) ?_
        refine ql (.pointer (some ⟨g, 0, none⟩)) (by kernel_rfl) (by kernel_rfl) ?_
        refine ql (.slice A L.length c) (by kernel_rfl) (R_load (p := ⟨g, 0, none⟩) (by kernel_rfl) (by kernel_rfl) (by kernel_rfl) (HS.cell (i := 0) (j := 0) rfl rfl)) ?_
        refine ql (.int .i64 (plc L i)) (by kernel_rfl) (by kernel_rfl) ?_
        refine ql (.int .i64 i) (by kernel_rfl) (by kernel_rfl) ?_
        refine ql (.int .i32 i) (by kernel_rfl) (R_int (by kernel_rfl) (w32 (by omega))) ?_
        refine kl HS 1 [.int .i32 i] 21 1 (by kernel_rfl) (by kernel_rfl) rfl (by decide) ?_
        intro g5 W6 H_
        replace HS : St W M W6 [row (some ⟨g5, 0, none⟩) 1 1 (ci .i32 ([i])) 21 1, blk g [.slice A L.length c] 77, row A L.length c (ci .i32 L) 21 1] := H_.cast_ (by kernel_rfl)
        clear H_
        refine qc (f := 65) (args := #[.slice A L.length c, .int .i64 (plc L i), .slice (some ⟨g5, 0, none⟩) 1 1]) (by kernel_rfl) (R_call #[.slice A L.length c, .int .i64 (plc L i), .slice (some ⟨g5, 0, none⟩) 1 1] Try.func65 (by kernel_rfl) (by kernel_rfl) (by kernel_rfl)) ?_
        replace HS : St W M W6 [row A L.length c (ci .i32 L) 21 1, row (some ⟨g5, 0, none⟩) 1 1 (ci .i32 ([i])) 21 1, blk g [.slice A L.length c] 77] := HS.perm (perm_ [2, 0, 1] (by kernel_rfl) rfl)
        refine (sinsert A c g5 L i (plc L i) _ _ (St.focus (F := [row A L.length c (ci .i32 L) 21 1, row (some ⟨g5, 0, none⟩) 1 1 (ci .i32 ([i])) 21 1]) HS) (by omega) hs.1 hv (plc_in (by omega))).mono ?_
        rintro e W9 ⟨A7, c8, rfl, H_⟩
        refine ⟨_, rfl, ?_⟩
        replace HS : St W M W9 [row A7 ((ins i L).length) c8 (ci .i32 (ins i L)) 21 1, blk g [.slice A L.length c] 77] := HS.join (F := [row A L.length c (ci .i32 L) 21 1, row (some ⟨g5, 0, none⟩) 1 1 (ci .i32 ([i])) 21 1]) (G := [row A7 ((ins i L).length) c8 (ci .i32 (ins i L)) 21 1]) H_
        clear H_
        refine ql (.pointer (some ⟨g, 0, none⟩)) (by kernel_rfl) (by kernel_rfl) ?_
        refine ql (.pointer (some ⟨g, 0, none⟩)) (by kernel_rfl) (by kernel_rfl) ?_
        refine ks (v := .slice A7 ((ins i L).length) c8) HS 1 rfl (0) [.slice A7 ((ins i L).length) c8] (by kernel_rfl) (by kernel_rfl) (by kernel_rfl) (by kernel_rfl) (by kernel_rfl) (one_ (by kernel_rfl)) (Nat.le_of_ble_eq_true rfl) rfl ?_
        intro W10 H_
        replace HS : St W M W10 [row A7 ((ins i L).length) c8 (ci .i32 (ins i L)) 21 1, blk g [.slice A7 ((ins i L).length) c8] 77] := H_
        clear H_
        refine wpList_nil ?_
        refine x_then ?_
        refine wp_seq ?_
        refine wp_region_lit ?_
        refine ql (.bool true) (by kernel_rfl) (by kernel_rfl) ?_
        refine wpList_nil ?_
        refine x_then ?_
        refine wp_ret ?_
        refine ret_ (.bool true) (by kernel_rfl) ?_
        replace HS : St W M W10 [blk g [.slice A7 ((ins i L).length) c8] 77, row A7 ((ins i L).length) c8 (ci .i32 (ins i L)) 21 1] := St.tail (F := []) (HS.perm (perm_ [1, 0] (by kernel_rfl) rfl))
        have ha := addL_in (n := 2147483648) (i := i) (L := L) (by omega) (by omega) hv
        exact ⟨_, _, by rw [ha.2], by rw [ha.1]; exact HS⟩

set_option maxRecDepth 100000 in
set_option maxHeartbeats 1000000 in
theorem sdel (g c : Nat) (A : Option Addr) (L : List Int) (i : Int) (W : World) (M : Nat → Prop) (HS : St W M W [blk g [.slice A L.length c] 77, row A L.length c (ci .i32 L) 21 1]) (hs : S31 L) (hl : L.length ≤ 90000) : Calls Try.prog 33 #[.pointer (some ⟨g, 0, none⟩), .int .i64 i] W fun e W' => ∃ A' c', e = .returned (.bool (delB L i)) ∧ St W M W' [blk g [.slice A' ((delL L i).length) c'] 77, row A' ((delL L i).length) c' (ci .i32 (delL L i)) 21 1] := by
  have hrk1 : -1 ≤ plc L i ∧ plc L i ≤ 100000 := by unfold plc; have h1 := rk_0 L i; have h2 := rk_le L i; split <;> omega
  refine calls_enter [.pointer (some ⟨g, 0, none⟩), .int .i64 i, undef, undef, undef, undef, undef, undef, undef, undef, undef, undef, undef, undef, undef, undef, undef, undef, undef, undef, undef, undef, undef, undef, undef, undef] Try.func33 rfl (by kernel_rfl) ?_
  refine wp_seq ?_
  refine wp_region_lit ?_
  refine ql (.bool false) (by kernel_rfl) (by kernel_rfl) ?_
  refine wpList_nil ?_
  refine x_then ?_
  refine wp_seq ?_
  refine wp_region_lit ?_
  refine ql (.pointer (some ⟨g, 0, none⟩)) (by kernel_rfl) (by kernel_rfl) ?_
  refine ql (.int .i64 i) (by kernel_rfl) (by kernel_rfl) ?_
  refine qc (f := 50) (args := #[.pointer (some ⟨g, 0, none⟩), .int .i64 i]) (by kernel_rfl) (R_call #[.pointer (some ⟨g, 0, none⟩), .int .i64 i] Try.func50 (by kernel_rfl) (by kernel_rfl) (by kernel_rfl)) ?_
  by_cases hv : i ∈ L
  · skip
    have hdx : decide (i ∈ L) = true := decide_eq_true hv
    refine (splace g c A L i _ (HS.cell (i := 0) (j := 0) rfl rfl) (Rd.row HS (i := 1) rfl) hs (by omega)).mono ?_
    rintro e W1 ⟨rfl, H_⟩
    rw [hdx]
    refine ⟨_, rfl, ?_⟩
    replace HS : St W M W1 [blk g [.slice A L.length c] 77, row A L.length c (ci .i32 L) 21 1] := HS.join (F := []) (G := []) H_
    clear H_
    refine ql (.tuple #[.int .i64 (plc L i), .bool true]) (by kernel_rfl) (by kernel_rfl) ?_
    refine ql (.int .i64 (plc L i)) (by kernel_rfl) (by kernel_rfl) ?_
    refine ql (.bool true) (by kernel_rfl) (by kernel_rfl) ?_
    refine ql (.int .i64 (plc L i)) (by kernel_rfl) (by kernel_rfl) ?_
    refine ql (.bool true) (by kernel_rfl) (by kernel_rfl) ?_
    refine wpList_nil ?_
    refine x_then ?_
    refine wp_seq ?_
    refine wp_seq ?_
    refine wp_region_lit ?_
    refine ql (.bool true) (by kernel_rfl) (by kernel_rfl) ?_
    refine wpList_nil ?_
    refine x_then ?_
    refine wp_cond_true (by kernel_rfl) ?_
    refine wp_region_lit ?_
    refine ql (.pointer (some ⟨g, 0, none⟩)) (by kernel_rfl) (by kernel_rfl) ?_
    refine ql (.pointer (some ⟨g, 0, none⟩)) (by kernel_rfl) (by kernel_rfl) ?_
    refine ql (.pointer (some ⟨g, 0, none⟩)) (by kernel_rfl) (by kernel_rfl) ?_
    refine ql (.pointer (some ⟨g, 0, none⟩)) (by kernel_rfl) (by kernel_rfl) ?_
    refine ql (.slice A L.length c) (by kernel_rfl) (R_load (p := ⟨g, 0, none⟩) (by kernel_rfl) (by kernel_rfl) (by kernel_rfl) (HS.cell (i := 0) (j := 0) rfl rfl)) ?_
    refine ql (.int .i64 (plc L i)) (by kernel_rfl) (by kernel_rfl) ?_
    refine ql (.int .i64 (plc L i)) (by kernel_rfl) (by kernel_rfl) ?_
    refine ql (.int .i64 ((plc L i) + 1)) (by kernel_rfl) (R_int (by kernel_rfl) (w64 (by omega))) ?_
    refine qc (f := 66) (args := #[.slice A L.length c, .int .i64 (plc L i), .int .i64 ((plc L i) + 1)]) (by kernel_rfl) (R_call #[.slice A L.length c, .int .i64 (plc L i), .int .i64 ((plc L i) + 1)] Try.func66 (by kernel_rfl) (by kernel_rfl) (by kernel_rfl)) ?_
    replace HS : St W M W1 [row A L.length c (ci .i32 L) 21 1, blk g [.slice A L.length c] 77] := HS.perm (perm_ [1, 0] (by kernel_rfl) rfl)
    have hlim := hs.2 i hv
    refine (sdelete A c L i (plc L i) _ _ (St.focus (F := [row A L.length c (ci .i32 L) 21 1]) HS) (by omega) hs.1 hv (plc_in (by omega))).mono ?_
    rintro e W4 ⟨A2, c3, rfl, H_⟩
    refine ⟨_, rfl, ?_⟩
    replace HS : St W M W4 [row A2 ((delL L i).length) c3 (ci .i32 (delL L i)) 21 1, blk g [.slice A L.length c] 77] := HS.join (F := [row A L.length c (ci .i32 L) 21 1]) (G := [row A2 ((delL L i).length) c3 (ci .i32 (delL L i)) 21 1]) H_
    clear H_
    refine ql (.pointer (some ⟨g, 0, none⟩)) (by kernel_rfl) (by kernel_rfl) ?_
    refine ql (.pointer (some ⟨g, 0, none⟩)) (by kernel_rfl) (by kernel_rfl) ?_
    refine ks (v := .slice A2 ((delL L i).length) c3) HS 1 rfl (0) [.slice A2 ((delL L i).length) c3] (by kernel_rfl) (by kernel_rfl) (by kernel_rfl) (by kernel_rfl) (by kernel_rfl) (one_ (by kernel_rfl)) (Nat.le_of_ble_eq_true rfl) rfl ?_
    intro W5 H_
    replace HS : St W M W5 [row A2 ((delL L i).length) c3 (ci .i32 (delL L i)) 21 1, blk g [.slice A2 ((delL L i).length) c3] 77] := H_
    clear H_
    refine wpList_nil ?_
    refine x_then ?_
    refine wp_seq ?_
    refine wp_region_lit ?_
    refine ql (.bool true) (by kernel_rfl) (by kernel_rfl) ?_
    refine ql (.bool true) (by kernel_rfl) (by kernel_rfl) ?_
    refine wpList_nil ?_
    refine x_then ?_
    refine wp_ret ?_
    refine ret_ (.bool true) (by kernel_rfl) ?_
    replace HS : St W M W5 [blk g [.slice A2 ((delL L i).length) c3] 77, row A2 ((delL L i).length) c3 (ci .i32 (delL L i)) 21 1] := St.tail (F := []) (HS.perm (perm_ [1, 0] (by kernel_rfl) rfl))
    exact ⟨_, _, by rw [show delB L i = true from decide_eq_true hv], HS⟩
  · skip
    have hdx : decide (i ∈ L) = false := decide_eq_false hv
    refine (splace g c A L i _ (HS.cell (i := 0) (j := 0) rfl rfl) (Rd.row HS (i := 1) rfl) hs (by omega)).mono ?_
    rintro e W6 ⟨rfl, H_⟩
    rw [hdx]
    refine ⟨_, rfl, ?_⟩
    replace HS : St W M W6 [blk g [.slice A L.length c] 77, row A L.length c (ci .i32 L) 21 1] := HS.join (F := []) (G := []) H_
    clear H_
    refine ql (.tuple #[.int .i64 (plc L i), .bool false]) (by kernel_rfl) (by kernel_rfl) ?_
    refine ql (.int .i64 (plc L i)) (by kernel_rfl) (by kernel_rfl) ?_
    refine ql (.bool false) (by kernel_rfl) (by kernel_rfl) ?_
    refine ql (.int .i64 (plc L i)) (by kernel_rfl) (by kernel_rfl) ?_
    refine ql (.bool false) (by kernel_rfl) (by kernel_rfl) ?_
    refine wpList_nil ?_
    refine x_then ?_
    refine wp_seq ?_
    refine wp_seq ?_
    refine wp_region_lit ?_
    refine ql (.bool false) (by kernel_rfl) (by kernel_rfl) ?_
    refine wpList_nil ?_
    refine x_then ?_
    refine wp_cond_false (by kernel_rfl) ?_
    refine wp_skip ?_
    refine x_then ?_
    refine wp_seq ?_
    refine wp_region_lit ?_
    refine ql (.bool false) (by kernel_rfl) (by kernel_rfl) ?_
    refine ql (.bool false) (by kernel_rfl) (by kernel_rfl) ?_
    refine wpList_nil ?_
    refine x_then ?_
    refine wp_ret ?_
    refine ret_ (.bool false) (by kernel_rfl) ?_
    have ha : delL L i = L := List.filter_eq_self.2 (fun x hx => by simp only [decide_eq_true_eq, ne_eq]; intro h_; exact hv (h_ ▸ hx))
    exact ⟨A, c, by rw [show delB L i = false from decide_eq_false hv], by rw [ha]; exact HS⟩

open Go.Shelf
set_option maxRecDepth 100000 in
set_option maxHeartbeats 1000000 in
theorem sor (g c : Nat) (A : Option Addr) (L : List Int) (h c2 : Nat) (B : Option Addr) (M : List Int) (W : World) (M_ : Nat → Prop) (HS : St W M_ W [blk g [.slice A L.length c] 77, row A L.length c (ci .i32 L) 21 1, blk h [.slice B M.length c2] 77, row B M.length c2 (ci .i32 M) 21 1]) (hs : S31 L) (hl : L.length ≤ 50000) (hs2 : S31 M) (hl2 : M.length ≤ 50000) : Calls Try.prog 17 #[.pointer (some ⟨g, 0, none⟩), .pointer (some ⟨h, 0, none⟩)] W fun e W' => ∃ A' c', e = .returned (.bool (newB L M)) ∧ St W M_ W' [blk g [.slice A' ((uni L M).length) c'] 77, row A' ((uni L M).length) c' (ci .i32 (uni L M)) 21 1, blk h [.slice B M.length c2] 77, row B M.length c2 (ci .i32 M) 21 1] := by
  refine calls_enter ((.pointer (some ⟨g, 0, none⟩)) :: (.pointer (some ⟨h, 0, none⟩)) :: undef :: undef :: undef :: undef :: undef :: undef :: undef :: undef :: undef :: undef :: undef :: undef :: undef :: undef :: undef :: undef :: undef :: undef :: undef :: undef :: undef :: undef :: undef :: undef :: undef :: undef :: undef :: undef :: undef :: undef :: undef :: undef :: undef :: undef :: undef :: undef :: undef :: undef :: undef :: undef :: undef :: undef :: undef :: undef :: undef :: undef :: undef :: undef :: undef :: undef :: undef :: undef :: undef :: undef :: undef :: undef :: undef :: undef :: undef :: undef :: undef :: undef :: undef :: undef :: undef :: undef :: undef :: undef :: undef :: undef :: undef :: undef :: undef :: undef :: undef :: undef :: undef :: undef :: undef :: undef :: undef :: undef :: undef :: undef :: undef :: undef :: undef :: undef :: undef :: undef :: undef :: undef :: undef :: undef :: undef :: undef :: undef :: undef :: undef :: undef :: undef :: []) Try.func17 rfl (by kernel_rfl) ?_
  refine wp_seq ?_
  refine wp_region_lit ?_
  refine ql (.bool false) (by kernel_rfl) (by kernel_rfl) ?_
  refine wpList_nil ?_
  refine x_then ?_
  refine wp_seq ?_
  refine wp_seq ?_
  refine wp_region_lit ?_
  refine ql (.pointer (some ⟨g, 0, none⟩)) (by kernel_rfl) (by kernel_rfl) ?_
  refine ql (.bool false) (by kernel_rfl) (by kernel_rfl) ?_
  refine ql (.bool false) (by kernel_rfl) (by kernel_rfl) ?_
  refine ql (.pointer (some ⟨h, 0, none⟩)) (by kernel_rfl) (by kernel_rfl) ?_
  refine ql (.bool false) (by kernel_rfl) (by kernel_rfl) ?_
  refine ql (.bool false) (by kernel_rfl) (by kernel_rfl) ?_
  refine wpList_nil ?_
  refine x_then ?_
  refine wp_cond_false (by kernel_rfl) ?_
  refine wp_skip ?_
  refine x_then ?_
  refine wp_seq ?_
  have HB1 := HS
  have hr2 := Rd.row HB1 (i := 1) rfl
  have hr3 := Rd.row HB1 (i := 3) rfl
  clear HS
  have HS : St W (owns []) W [] := St.start _ _
  have hzg := HB1.cell (i := 0) (j := 0) rfl rfl
  have hzh := HB1.cell (i := 2) (j := 0) rfl rfl
  have hrc1 := (HB1.rcap (i := 1) rfl).1
  have hrc2 := (HB1.rcap (i := 3) rfl).1
  refine rg_still HS 11 (by kernel_rfl) (by kernel_rfl) ?_
  intro W4 H_ HK_
  simp only [List.take_succ_cons, List.take_zero, List.drop_succ_cons, List.drop_zero]
  replace HS : St W (owns []) W4 [] := H_
  clear H_
  clear HK_
  refine qs (.pointer (some ⟨g, 0, none⟩)) (by kernel_rfl) (by kernel_rfl) ?_
  refine qs (.pointer (some ⟨g, 0, none⟩)) (by kernel_rfl) (by kernel_rfl) ?_
  refine qs (.pointer (some ⟨g, 0, none⟩)) (by kernel_rfl) (by kernel_rfl) ?_
  refine qs (.slice A L.length c) (by kernel_rfl) (R_load (p := ⟨g, 0, none⟩) (by kernel_rfl) (by kernel_rfl) (by kernel_rfl) (HS.old0 hzg)) ?_
  refine qs (.int .i64 (L.length : Int)) (by kernel_rfl) (by kernel_rfl) ?_
  refine qs (.pointer (some ⟨h, 0, none⟩)) (by kernel_rfl) (by kernel_rfl) ?_
  refine qs (.pointer (some ⟨h, 0, none⟩)) (by kernel_rfl) (by kernel_rfl) ?_
  refine qs (.pointer (some ⟨h, 0, none⟩)) (by kernel_rfl) (by kernel_rfl) ?_
  refine qs (.slice B M.length c2) (by kernel_rfl) (R_load (p := ⟨h, 0, none⟩) (by kernel_rfl) (by kernel_rfl) (by kernel_rfl) (HS.old0 hzh)) ?_
  refine qs (.int .i64 (M.length : Int)) (by kernel_rfl) (by kernel_rfl) ?_
  refine qs (.int .i64 ((L.length : Int) + (M.length : Int))) (by kernel_rfl) (R_int (by kernel_rfl) (w64 (by omega))) ?_
  refine wpStill_nil ?_
  refine km0 (k1 := .i64) HS (((L.length : Int) + (M.length : Int)).toNat) [.int .i32 0] 4 (by kernel_rfl) (by kernel_rfl) (k_eq (k := .i64) (m := (L.length : Int) + (M.length : Int)) (by kernel_rfl) (by omega)) Try.underlying75 (by kernel_rfl) (by kernel_rfl) (by kernel_rfl) (by decide) (by omega) (by omega) ?_
  intro g5 W6 H_
  replace HS : St W (owns []) W6 [row (some ⟨g5, 0, none⟩) 0 (((L.length : Int) + (M.length : Int)).toNat) (ci .i32 ([])) 21 1] := H_.cast_ (by kernel_rfl)
  clear H_
  refine ql (.slice (some ⟨g5, 0, none⟩) 0 (((L.length : Int) + (M.length : Int)).toNat)) (by kernel_rfl) (by kernel_rfl) ?_
  refine wpList_nil ?_
  refine x_then ?_
  refine wp_seq ?_
  refine rg_still HS 9 (by kernel_rfl) (by kernel_rfl) ?_
  intro W7 H_ HK_
  simp only [List.take_succ_cons, List.take_zero, List.drop_succ_cons, List.drop_zero]
  replace HS : St W (owns []) W7 [row (some ⟨g5, 0, none⟩) 0 (((L.length : Int) + (M.length : Int)).toNat) (ci .i32 ([])) 21 1] := H_
  clear H_
  clear HK_
  refine qs (.pointer (some ⟨g, 0, none⟩)) (by kernel_rfl) (by kernel_rfl) ?_
  refine qs (.pointer (some ⟨g, 0, none⟩)) (by kernel_rfl) (by kernel_rfl) ?_
  refine qs (.pointer (some ⟨g, 0, none⟩)) (by kernel_rfl) (by kernel_rfl) ?_
  refine qs (.slice A L.length c) (by kernel_rfl) (R_load (p := ⟨g, 0, none⟩) (by kernel_rfl) (by kernel_rfl) (by kernel_rfl) (HS.old0 hzg)) ?_
  refine qs (.pointer (some ⟨h, 0, none⟩)) (by kernel_rfl) (by kernel_rfl) ?_
  refine qs (.pointer (some ⟨h, 0, none⟩)) (by kernel_rfl) (by kernel_rfl) ?_
  refine qs (.pointer (some ⟨h, 0, none⟩)) (by kernel_rfl) (by kernel_rfl) ?_
  refine qs (.slice B M.length c2) (by kernel_rfl) (R_load (p := ⟨h, 0, none⟩) (by kernel_rfl) (by kernel_rfl) (by kernel_rfl) (HS.old0 hzh)) ?_
  refine qs (.slice A L.length c) (by kernel_rfl) (by kernel_rfl) ?_
  refine wpStill_nil ?_
  refine ql (.slice B M.length c2) (by kernel_rfl) (by kernel_rfl) ?_
  refine wpList_nil ?_
  refine x_then ?_
  refine wp_seq ?_
  refine wp_block ?_
  refine wp_loop_ghost (fun kq a' w' => ∃ (J8 : Nat → Value) (out : List Int) (Ao : Option Addr) (co : Nat) (La : List Int) (Aa : Option Addr) (na : Nat) (ca : Nat) (Lb : List Int) (Ab : Option Addr) (nb : Nat) (cb : Nat) , a' = Fr ((.pointer (some ⟨g, 0, none⟩)) :: (.pointer (some ⟨h, 0, none⟩)) :: undef :: undef :: (.bool false) :: (.slice Ao out.length co) :: (.slice Aa na ca) :: (.slice Ab nb cb) :: undef :: (.pointer (some ⟨g, 0, none⟩)) :: (.bool false) :: (.bool false) :: (.pointer (some ⟨h, 0, none⟩)) :: (.bool false) :: (.bool false) :: (.pointer (some ⟨g, 0, none⟩)) :: (.pointer (some ⟨g, 0, none⟩)) :: (.pointer (some ⟨g, 0, none⟩)) :: (.slice A L.length c) :: (.int .i64 (L.length : Int)) :: (.pointer (some ⟨h, 0, none⟩)) :: (.pointer (some ⟨h, 0, none⟩)) :: (.pointer (some ⟨h, 0, none⟩)) :: (.slice B M.length c2) :: (.int .i64 (M.length : Int)) :: (.int .i64 ((L.length : Int) + (M.length : Int))) :: (.slice (some ⟨g5, 0, none⟩) 0 (((L.length : Int) + (M.length : Int)).toNat)) :: (.pointer (some ⟨g, 0, none⟩)) :: (.pointer (some ⟨g, 0, none⟩)) :: (.pointer (some ⟨g, 0, none⟩)) :: (.slice A L.length c) :: (.pointer (some ⟨h, 0, none⟩)) :: (.pointer (some ⟨h, 0, none⟩)) :: (.pointer (some ⟨h, 0, none⟩)) :: (.slice B M.length c2) :: ((J8 35)) :: ((J8 36)) :: ((J8 37)) :: ((J8 38)) :: ((J8 39)) :: ((J8 40)) :: ((J8 41)) :: ((J8 42)) :: ((J8 43)) :: ((J8 44)) :: ((J8 45)) :: ((J8 46)) :: ((J8 47)) :: ((J8 48)) :: ((J8 49)) :: ((J8 50)) :: ((J8 51)) :: ((J8 52)) :: ((J8 53)) :: ((J8 54)) :: ((J8 55)) :: ((J8 56)) :: ((J8 57)) :: ((J8 58)) :: ((J8 59)) :: ((J8 60)) :: ((J8 61)) :: ((J8 62)) :: ((J8 63)) :: ((J8 64)) :: ((J8 65)) :: ((J8 66)) :: ((J8 67)) :: ((J8 68)) :: ((J8 69)) :: ((J8 70)) :: ((J8 71)) :: ((J8 72)) :: ((J8 73)) :: ((J8 74)) :: ((J8 75)) :: ((J8 76)) :: ((J8 77)) :: ((J8 78)) :: ((J8 79)) :: ((J8 80)) :: ((J8 81)) :: ((J8 82)) :: ((J8 83)) :: ((J8 84)) :: undef :: undef :: undef :: undef :: undef :: undef :: undef :: undef :: undef :: undef :: undef :: undef :: undef :: undef :: undef :: undef :: undef :: undef :: []) ∧ kq = (na + nb) ∧ (MgP L M out La Lb) ∧ (Rd W Aa (ci .i32 La)) ∧ (na = La.length) ∧ (La.length ≤ ca) ∧ (Rd W Ab (ci .i32 Lb)) ∧ (nb = Lb.length) ∧ (Lb.length ≤ cb) ∧ St W (owns []) w' [row Ao out.length co (ci .i32 out) 21 1]) (L.length + M.length) ⟨(fun k_ : Nat => List.getD ((.pointer (some ⟨g, 0, none⟩)) :: (.pointer (some ⟨h, 0, none⟩)) :: undef :: undef :: (.bool false) :: (.slice (some ⟨g5, 0, none⟩) 0 (((L.length : Int) + (M.length : Int)).toNat)) :: (.slice A L.length c) :: (.slice B M.length c2) :: undef :: (.pointer (some ⟨g, 0, none⟩)) :: (.bool false) :: (.bool false) :: (.pointer (some ⟨h, 0, none⟩)) :: (.bool false) :: (.bool false) :: (.pointer (some ⟨g, 0, none⟩)) :: (.pointer (some ⟨g, 0, none⟩)) :: (.pointer (some ⟨g, 0, none⟩)) :: (.slice A L.length c) :: (.int .i64 (L.length : Int)) :: (.pointer (some ⟨h, 0, none⟩)) :: (.pointer (some ⟨h, 0, none⟩)) :: (.pointer (some ⟨h, 0, none⟩)) :: (.slice B M.length c2) :: (.int .i64 (M.length : Int)) :: (.int .i64 ((L.length : Int) + (M.length : Int))) :: (.slice (some ⟨g5, 0, none⟩) 0 (((L.length : Int) + (M.length : Int)).toNat)) :: (.pointer (some ⟨g, 0, none⟩)) :: (.pointer (some ⟨g, 0, none⟩)) :: (.pointer (some ⟨g, 0, none⟩)) :: (.slice A L.length c) :: (.pointer (some ⟨h, 0, none⟩)) :: (.pointer (some ⟨h, 0, none⟩)) :: (.pointer (some ⟨h, 0, none⟩)) :: (.slice B M.length c2) :: undef :: undef :: undef :: undef :: undef :: undef :: undef :: undef :: undef :: undef :: undef :: undef :: undef :: undef :: undef :: undef :: undef :: undef :: undef :: undef :: undef :: undef :: undef :: undef :: undef :: undef :: undef :: undef :: undef :: undef :: undef :: undef :: undef :: undef :: undef :: undef :: undef :: undef :: undef :: undef :: undef :: undef :: undef :: undef :: undef :: undef :: undef :: undef :: undef :: undef :: undef :: undef :: undef :: undef :: undef :: undef :: undef :: undef :: undef :: undef :: undef :: undef :: undef :: undef :: undef :: undef :: undef :: undef :: []) k_ undef), ([] : List Int), some ⟨g5, 0, none⟩, ((L.length : Int) + (M.length : Int)).toNat, L, A, L.length, c, M, B, M.length, c2, congrArg Fr (by kernel_rfl), rfl, (mg_start hs.1 hs2.1), hr2, rfl, (by omega), hr3, rfl, (by omega), HS⟩ ?_
  clear HS
  intro kq9 a' W10 hrel
  obtain ⟨J8, out, Ao, co, La, Aa, na, ca, Lb, Ab, nb, cb, rfl, hk, hP, hAa, hna, hca, hAb, hnb, hcb, HS⟩ := hrel
  have hml := mg_len hP
  refine wp_seq ?_
  refine wp_seq ?_
  refine wp_region_lit ?_
  refine ql (.slice Aa na ca) (by kernel_rfl) (by kernel_rfl) ?_
  refine ql (.int .i64 (na : Int)) (by kernel_rfl) (by kernel_rfl) ?_
  by_cases hc11 : (na : Int) > (0 : Int)
  · skip
    refine ql (.bool true) (by kernel_rfl) (R_bool (p := (na : Int) > (0 : Int)) (by kernel_rfl) (hc11)) ?_
    refine ql (.bool true) (by kernel_rfl) (by kernel_rfl) ?_
    refine ql (.slice Ab nb cb) (by kernel_rfl) (by kernel_rfl) ?_
    refine ql (.int .i64 (nb : Int)) (by kernel_rfl) (by kernel_rfl) ?_
    by_cases hc12 : (nb : Int) > (0 : Int)
    · skip
      refine ql (.bool true) (by kernel_rfl) (R_bool (p := (nb : Int) > (0 : Int)) (by kernel_rfl) (hc12)) ?_
      refine ql (.bool true) (by kernel_rfl) (by kernel_rfl) ?_
      refine wpList_nil ?_
      refine x_then ?_
      refine wp_cond_true (by kernel_rfl) ?_
      refine wp_skip ?_
      refine x_then ?_
      refine wp_block ?_
      refine wp_block ?_
      refine wp_seq ?_
      refine rg_still HS 7 (by kernel_rfl) (by kernel_rfl) ?_
      intro W13 H_ HK_
      simp only [List.take_succ_cons, List.take_zero, List.drop_succ_cons, List.drop_zero]
      replace HS : St W (owns []) W13 [row Ao out.length co (ci .i32 out) 21 1] := H_
      clear H_
      clear HK_
      refine qs (.slice Aa na ca) (by kernel_rfl) (by kernel_rfl) ?_
      obtain ⟨ad14, rfl⟩ := Rd.isSome_ hAa (by rw [ci_len]; omega)
      refine qs (.pointer (some (ad14.add 0))) (by kernel_rfl) (R_indexA1 (k := .i64) (p := ad14) (n := na) (c := ca) (i := 0) (by kernel_rfl) (by kernel_rfl) Try.underlying75 (by kernel_rfl) (by omega) (by omega)) ?_
      refine qs (.int .i32 (rdI La 0)) (by kernel_rfl) (R_load (p := ad14.add 0) (by kernel_rfl) (by kernel_rfl) (by kernel_rfl) (HS.old0 (hAa.at_ (ci_rd (i := 0) (by omega) (by omega))))) ?_
      refine qs (.slice Ab nb cb) (by kernel_rfl) (by kernel_rfl) ?_
      obtain ⟨ad15, rfl⟩ := Rd.isSome_ hAb (by rw [ci_len]; omega)
      refine qs (.pointer (some (ad15.add 0))) (by kernel_rfl) (R_indexA1 (k := .i64) (p := ad15) (n := nb) (c := cb) (i := 0) (by kernel_rfl) (by kernel_rfl) Try.underlying75 (by kernel_rfl) (by omega) (by omega)) ?_
      refine qs (.int .i32 (rdI Lb 0)) (by kernel_rfl) (R_load (p := ad15.add 0) (by kernel_rfl) (by kernel_rfl) (by kernel_rfl) (HS.old0 (hAb.at_ (ci_rd (i := 0) (by omega) (by omega))))) ?_
      by_cases hc16 : (rdI La 0) < (rdI Lb 0)
      · skip
        refine qs (.bool true) (by kernel_rfl) (R_bool (p := (rdI La 0) < (rdI Lb 0)) (by kernel_rfl) (hc16)) ?_
        refine wpStill_nil ?_
        refine ql (.bool true) (by kernel_rfl) (by kernel_rfl) ?_
        refine wpList_nil ?_
        refine x_then ?_
        refine wp_cond_true (by kernel_rfl) ?_
        refine t_start HS (row Ao out.length co (ci .i32 out) 21 1).own 10 (by kernel_rfl) rfl ?_
        intro W17 H_ HD_
        clear HD_
        replace HS : St W (owns []) W17 [row Ao out.length co (ci .i32 out) 21 1] := H_
        clear H_
        have HV := HS
        have HK := Kpt.refl (row Ao out.length co (ci .i32 out) 21 1).own W17
        refine t_q (n := 9) 0 (.slice Ao out.length co) rfl (by kernel_rfl) (by kernel_rfl) (fun _ _ _ h => h) (fun w' hk => (by kernel_rfl)) HK ?_
        refine t_q (n := 8) 1 (.slice (some ad14) na ca) rfl (by kernel_rfl) (by kernel_rfl) (fun _ _ _ h => h) (fun w' hk => (by kernel_rfl)) HK ?_
        refine t_q (n := 7) 2 (.pointer (some (ad14.add 0))) rfl (by kernel_rfl) (by kernel_rfl) (fun _ _ _ h => h) (fun w' hk => (R_indexA1 (k := .i64) (p := ad14) (n := na) (c := ca) (i := 0) (by kernel_rfl) (by kernel_rfl) Try.underlying75 (by kernel_rfl) (by omega) (by omega))) HK ?_
        refine t_q (n := 6) 3 (.int .i32 (rdI La 0)) rfl (by kernel_rfl) (by kernel_rfl) (fun _ _ _ h => h) (fun w' hk => (R_load (p := ad14.add 0) (by kernel_rfl) (by kernel_rfl) (by kernel_rfl) (HV.oldK (i := 0) rfl hk (hAa.at_ (ci_rd (i := 0) (by omega) (by omega)))))) HK ?_
        refine t_q (n := 5) 6 (.slice (some ad14) na ca) rfl (by kernel_rfl) (by kernel_rfl) (fun _ _ _ h => h) (fun w' hk => (by kernel_rfl)) HK ?_
        refine t_q (n := 4) 7 (.slice (cutA (some ad14) ca 1 1) (na - 1) (ca - 1)) rfl (by kernel_rfl) (by kernel_rfl) (fun _ _ _ h => h) (fun w' hk => (R_sliceL (k := .i64) (A := some ad14) (n := na) (c := ca) (i := 1) (by kernel_rfl) (by kernel_rfl) Try.underlying75 (by kernel_rfl) (by omega) (by omega))) HK ?_
        obtain ⟨g18, W19, hg_, hw_, H_, hk_⟩ := ex_lit HS 1 [.int .i32 (rdI La 0)] 21 1 rfl (by decide)
        refine t_e (n := 3) 4 (.slice (some ⟨g18, 0, none⟩) 1 1) rfl (by kernel_rfl) (by kernel_rfl) (by subst hg_; subst hw_; kernel_rfl) (HK.tr hk_) ?_
        replace HK := HK.tr hk_
        clear hk_
        clear hg_ hw_
        replace HS : St W (owns []) W19 [row (some ⟨g18, 0, none⟩) 1 1 (ci .i32 ([rdI La 0])) 21 1, row Ao out.length co (ci .i32 out) 21 1] := H_.cast_ (by kernel_rfl)
        clear H_
        obtain ⟨xs23, xs23_⟩ : ∃ z_ : List Int, z_ = out ++ ([rdI La 0]) := ⟨_, rfl⟩
        have xs23l : xs23.length = out.length + 1 := by rw [xs23_, List.length_append] <;> (try simp only [List.length_cons, List.length_nil]) <;> omega
        obtain ⟨A20, c21, W22, hrun_, H_, hk_⟩ := ex_append (P := Try.prog) (ty := 75) (ps := "sparse.go:67") (af := #[{ on := 0, ground := Go.Ground.data }, { on := 4, ground := Go.Ground.data }]) (gd := none) (dst := some 66) (t := 75) (s := (Go.Operand.tmp 61)) (x := (Go.Operand.tmp 65)) HS 1 rfl (Src.of_row HS (i := 0) rfl ci_one) [.int .i32 0] 4 xs23.length (ci .i32 xs23) (by omega) (by rw [xs23_, ci_app]) (by kernel_rfl) (by kernel_rfl) Try.underlying75 (by kernel_rfl) (by kernel_rfl) (by kernel_rfl) (by kernel_rfl) (by decide) (by omega) (by omega)
        refine t_e (n := 2) 5 (.slice A20 xs23.length c21) rfl (by kernel_rfl) (by kernel_rfl) hrun_ (HK.trN hk_) ?_
        replace HK := HK.trN hk_
        clear hk_ hrun_
        replace HS : St W (owns []) W22 [row (some ⟨g18, 0, none⟩) 1 1 (ci .i32 ([rdI La 0])) 21 1, row A20 xs23.length c21 (ci .i32 xs23) 21 1] := H_
        clear H_
        refine t_q (n := 1) 8 (.slice A20 xs23.length c21) rfl (by kernel_rfl) (by kernel_rfl) (fun _ _ _ h => h) (fun w' hk => (by kernel_rfl)) HK ?_
        refine t_q (n := 0) 9 (.slice (cutA (some ad14) ca 1 1) (na - 1) (ca - 1)) rfl (by kernel_rfl) (by kernel_rfl) (fun _ _ _ h => h) (fun w' hk => (by kernel_rfl)) HK ?_
        refine t_done (by kernel_rfl) ?_
        clear HV HK
        refine x_inb ?_
        refine x_inb ?_
        replace HS := HS.drop1
        refine x_then ?_
        exact ⟨(na - 1) + nb, by omega, (fun k_ : Nat => List.getD ((.pointer (some ⟨g, 0, none⟩)) :: (.pointer (some ⟨h, 0, none⟩)) :: undef :: undef :: (.bool false) :: (.slice A20 xs23.length c21) :: (.slice (cutA (some ad14) ca 1 1) (na - 1) (ca - 1)) :: (.slice (some ad15) nb cb) :: undef :: (.pointer (some ⟨g, 0, none⟩)) :: (.bool false) :: (.bool false) :: (.pointer (some ⟨h, 0, none⟩)) :: (.bool false) :: (.bool false) :: (.pointer (some ⟨g, 0, none⟩)) :: (.pointer (some ⟨g, 0, none⟩)) :: (.pointer (some ⟨g, 0, none⟩)) :: (.slice A L.length c) :: (.int .i64 (L.length : Int)) :: (.pointer (some ⟨h, 0, none⟩)) :: (.pointer (some ⟨h, 0, none⟩)) :: (.pointer (some ⟨h, 0, none⟩)) :: (.slice B M.length c2) :: (.int .i64 (M.length : Int)) :: (.int .i64 ((L.length : Int) + (M.length : Int))) :: (.slice (some ⟨g5, 0, none⟩) 0 (((L.length : Int) + (M.length : Int)).toNat)) :: (.pointer (some ⟨g, 0, none⟩)) :: (.pointer (some ⟨g, 0, none⟩)) :: (.pointer (some ⟨g, 0, none⟩)) :: (.slice A L.length c) :: (.pointer (some ⟨h, 0, none⟩)) :: (.pointer (some ⟨h, 0, none⟩)) :: (.pointer (some ⟨h, 0, none⟩)) :: (.slice B M.length c2) :: (.slice (some ad14) na ca) :: (.int .i64 (na : Int)) :: (.bool true) :: (.bool true) :: (.slice (some ad15) nb cb) :: (.int .i64 (nb : Int)) :: (.bool true) :: (.bool true) :: ((J8 43)) :: ((J8 44)) :: ((J8 45)) :: ((J8 46)) :: ((J8 47)) :: ((J8 48)) :: ((J8 49)) :: ((J8 50)) :: ((J8 51)) :: ((J8 52)) :: (.bool true) :: (.slice (some ad14) na ca) :: (.pointer (some (ad14.add 0))) :: (.int .i32 (rdI La 0)) :: (.slice (some ad15) nb cb) :: (.pointer (some (ad15.add 0))) :: (.int .i32 (rdI Lb 0)) :: (.bool true) :: (.slice Ao out.length co) :: (.slice (some ad14) na ca) :: (.pointer (some (ad14.add 0))) :: (.int .i32 (rdI La 0)) :: (.slice (some ⟨g18, 0, none⟩) 1 1) :: (.slice A20 xs23.length c21) :: (.slice (some ad14) na ca) :: (.slice (cutA (some ad14) ca 1 1) (na - 1) (ca - 1)) :: ((J8 69)) :: ((J8 70)) :: ((J8 71)) :: ((J8 72)) :: ((J8 73)) :: ((J8 74)) :: ((J8 75)) :: ((J8 76)) :: ((J8 77)) :: ((J8 78)) :: ((J8 79)) :: ((J8 80)) :: ((J8 81)) :: ((J8 82)) :: ((J8 83)) :: ((J8 84)) :: undef :: undef :: undef :: undef :: undef :: undef :: undef :: undef :: undef :: undef :: undef :: undef :: undef :: undef :: undef :: undef :: undef :: undef :: []) k_ undef), xs23, A20, c21, (La.drop 1), (cutA (some ad14) ca 1 1), (na - 1), (ca - 1), Lb, some ad15, nb, cb, congrArg Fr (by kernel_rfl), rfl, (by rw [xs23_]; exact mgs_l hP (by omega) (by omega) hc16), (rd_cut1 hAa (by omega) hca), (by rw [List.length_drop]; omega), (by rw [List.length_drop]; omega), hAb, hnb, hcb, HS⟩
      · skip
        refine qs (.bool false) (by kernel_rfl) (R_nbool (p := (rdI La 0) < (rdI Lb 0)) (by kernel_rfl) (hc16)) ?_
        refine wpStill_nil ?_
        refine ql (.bool false) (by kernel_rfl) (by kernel_rfl) ?_
        refine wpList_nil ?_
        refine x_then ?_
        refine wp_cond_false (by kernel_rfl) ?_
        refine wp_seq ?_
        refine rg_still HS 7 (by kernel_rfl) (by kernel_rfl) ?_
        intro W24 H_ HK_
        simp only [List.take_succ_cons, List.take_zero, List.drop_succ_cons, List.drop_zero]
        replace HS : St W (owns []) W24 [row Ao out.length co (ci .i32 out) 21 1] := H_
        clear H_
        clear HK_
        refine qs (.slice (some ad14) na ca) (by kernel_rfl) (by kernel_rfl) ?_
        refine qs (.pointer (some (ad14.add 0))) (by kernel_rfl) (R_indexA1 (k := .i64) (p := ad14) (n := na) (c := ca) (i := 0) (by kernel_rfl) (by kernel_rfl) Try.underlying75 (by kernel_rfl) (by omega) (by omega)) ?_
        refine qs (.int .i32 (rdI La 0)) (by kernel_rfl) (R_load (p := ad14.add 0) (by kernel_rfl) (by kernel_rfl) (by kernel_rfl) (HS.old0 (hAa.at_ (ci_rd (i := 0) (by omega) (by omega))))) ?_
        refine qs (.slice (some ad15) nb cb) (by kernel_rfl) (by kernel_rfl) ?_
        refine qs (.pointer (some (ad15.add 0))) (by kernel_rfl) (R_indexA1 (k := .i64) (p := ad15) (n := nb) (c := cb) (i := 0) (by kernel_rfl) (by kernel_rfl) Try.underlying75 (by kernel_rfl) (by omega) (by omega)) ?_
        refine qs (.int .i32 (rdI Lb 0)) (by kernel_rfl) (R_load (p := ad15.add 0) (by kernel_rfl) (by kernel_rfl) (by kernel_rfl) (HS.old0 (hAb.at_ (ci_rd (i := 0) (by omega) (by omega))))) ?_
        by_cases hc25 : (rdI La 0) > (rdI Lb 0)
        · skip
          refine qs (.bool true) (by kernel_rfl) (R_bool (p := (rdI La 0) > (rdI Lb 0)) (by kernel_rfl) (hc25)) ?_
          refine wpStill_nil ?_
          refine ql (.bool true) (by kernel_rfl) (by kernel_rfl) ?_
          refine wpList_nil ?_
          refine x_then ?_
          refine wp_cond_true (by kernel_rfl) ?_
          refine t_start HS (row Ao out.length co (ci .i32 out) 21 1).own 10 (by kernel_rfl) rfl ?_
          intro W26 H_ HD_
          clear HD_
          replace HS : St W (owns []) W26 [row Ao out.length co (ci .i32 out) 21 1] := H_
          clear H_
          have HV := HS
          have HK := Kpt.refl (row Ao out.length co (ci .i32 out) 21 1).own W26
          refine t_q (n := 9) 0 (.slice Ao out.length co) rfl (by kernel_rfl) (by kernel_rfl) (fun _ _ _ h => h) (fun w' hk => (by kernel_rfl)) HK ?_
          refine t_q (n := 8) 1 (.slice (some ad15) nb cb) rfl (by kernel_rfl) (by kernel_rfl) (fun _ _ _ h => h) (fun w' hk => (by kernel_rfl)) HK ?_
          refine t_q (n := 7) 2 (.pointer (some (ad15.add 0))) rfl (by kernel_rfl) (by kernel_rfl) (fun _ _ _ h => h) (fun w' hk => (R_indexA1 (k := .i64) (p := ad15) (n := nb) (c := cb) (i := 0) (by kernel_rfl) (by kernel_rfl) Try.underlying75 (by kernel_rfl) (by omega) (by omega))) HK ?_
          refine t_q (n := 6) 3 (.int .i32 (rdI Lb 0)) rfl (by kernel_rfl) (by kernel_rfl) (fun _ _ _ h => h) (fun w' hk => (R_load (p := ad15.add 0) (by kernel_rfl) (by kernel_rfl) (by kernel_rfl) (HV.oldK (i := 0) rfl hk (hAb.at_ (ci_rd (i := 0) (by omega) (by omega)))))) HK ?_
          refine t_q (n := 5) 6 (.slice (some ad15) nb cb) rfl (by kernel_rfl) (by kernel_rfl) (fun _ _ _ h => h) (fun w' hk => (by kernel_rfl)) HK ?_
          refine t_q (n := 4) 7 (.slice (cutA (some ad15) cb 1 1) (nb - 1) (cb - 1)) rfl (by kernel_rfl) (by kernel_rfl) (fun _ _ _ h => h) (fun w' hk => (R_sliceL (k := .i64) (A := some ad15) (n := nb) (c := cb) (i := 1) (by kernel_rfl) (by kernel_rfl) Try.underlying75 (by kernel_rfl) (by omega) (by omega))) HK ?_
          obtain ⟨g27, W28, hg_, hw_, H_, hk_⟩ := ex_lit HS 1 [.int .i32 (rdI Lb 0)] 21 1 rfl (by decide)
          refine t_e (n := 3) 4 (.slice (some ⟨g27, 0, none⟩) 1 1) rfl (by kernel_rfl) (by kernel_rfl) (by subst hg_; subst hw_; kernel_rfl) (HK.tr hk_) ?_
          replace HK := HK.tr hk_
          clear hk_
          clear hg_ hw_
          replace HS : St W (owns []) W28 [row (some ⟨g27, 0, none⟩) 1 1 (ci .i32 ([rdI Lb 0])) 21 1, row Ao out.length co (ci .i32 out) 21 1] := H_.cast_ (by kernel_rfl)
          clear H_
          obtain ⟨xs32, xs32_⟩ : ∃ z_ : List Int, z_ = out ++ ([rdI Lb 0]) := ⟨_, rfl⟩
          have xs32l : xs32.length = out.length + 1 := by rw [xs32_, List.length_append] <;> (try simp only [List.length_cons, List.length_nil]) <;> omega
          obtain ⟨A29, c30, W31, hrun_, H_, hk_⟩ := ex_append (P := Try.prog) (ty := 75) (ps := "sparse.go:69") (af := #[{ on := 0, ground := Go.Ground.data }, { on := 4, ground := Go.Ground.data }]) (gd := none) (dst := some 82) (t := 75) (s := (Go.Operand.tmp 77)) (x := (Go.Operand.tmp 81)) HS 1 rfl (Src.of_row HS (i := 0) rfl ci_one) [.int .i32 0] 4 xs32.length (ci .i32 xs32) (by omega) (by rw [xs32_, ci_app]) (by kernel_rfl) (by kernel_rfl) Try.underlying75 (by kernel_rfl) (by kernel_rfl) (by kernel_rfl) (by kernel_rfl) (by decide) (by omega) (by omega)
          refine t_e (n := 2) 5 (.slice A29 xs32.length c30) rfl (by kernel_rfl) (by kernel_rfl) hrun_ (HK.trN hk_) ?_
          replace HK := HK.trN hk_
          clear hk_ hrun_
          replace HS : St W (owns []) W31 [row (some ⟨g27, 0, none⟩) 1 1 (ci .i32 ([rdI Lb 0])) 21 1, row A29 xs32.length c30 (ci .i32 xs32) 21 1] := H_
          clear H_
          refine t_q (n := 1) 8 (.slice A29 xs32.length c30) rfl (by kernel_rfl) (by kernel_rfl) (fun _ _ _ h => h) (fun w' hk => (by kernel_rfl)) HK ?_
          refine t_q (n := 0) 9 (.slice (cutA (some ad15) cb 1 1) (nb - 1) (cb - 1)) rfl (by kernel_rfl) (by kernel_rfl) (fun _ _ _ h => h) (fun w' hk => (by kernel_rfl)) HK ?_
          refine t_done (by kernel_rfl) ?_
          clear HV HK
          refine x_inb ?_
          refine x_inb ?_
          replace HS := HS.drop1
          refine x_then ?_
          exact ⟨na + (nb - 1), by omega, (fun k_ : Nat => List.getD ((.pointer (some ⟨g, 0, none⟩)) :: (.pointer (some ⟨h, 0, none⟩)) :: undef :: undef :: (.bool false) :: (.slice A29 xs32.length c30) :: (.slice (some ad14) na ca) :: (.slice (cutA (some ad15) cb 1 1) (nb - 1) (cb - 1)) :: undef :: (.pointer (some ⟨g, 0, none⟩)) :: (.bool false) :: (.bool false) :: (.pointer (some ⟨h, 0, none⟩)) :: (.bool false) :: (.bool false) :: (.pointer (some ⟨g, 0, none⟩)) :: (.pointer (some ⟨g, 0, none⟩)) :: (.pointer (some ⟨g, 0, none⟩)) :: (.slice A L.length c) :: (.int .i64 (L.length : Int)) :: (.pointer (some ⟨h, 0, none⟩)) :: (.pointer (some ⟨h, 0, none⟩)) :: (.pointer (some ⟨h, 0, none⟩)) :: (.slice B M.length c2) :: (.int .i64 (M.length : Int)) :: (.int .i64 ((L.length : Int) + (M.length : Int))) :: (.slice (some ⟨g5, 0, none⟩) 0 (((L.length : Int) + (M.length : Int)).toNat)) :: (.pointer (some ⟨g, 0, none⟩)) :: (.pointer (some ⟨g, 0, none⟩)) :: (.pointer (some ⟨g, 0, none⟩)) :: (.slice A L.length c) :: (.pointer (some ⟨h, 0, none⟩)) :: (.pointer (some ⟨h, 0, none⟩)) :: (.pointer (some ⟨h, 0, none⟩)) :: (.slice B M.length c2) :: (.slice (some ad14) na ca) :: (.int .i64 (na : Int)) :: (.bool true) :: (.bool true) :: (.slice (some ad15) nb cb) :: (.int .i64 (nb : Int)) :: (.bool true) :: (.bool true) :: ((J8 43)) :: ((J8 44)) :: ((J8 45)) :: ((J8 46)) :: ((J8 47)) :: ((J8 48)) :: ((J8 49)) :: ((J8 50)) :: ((J8 51)) :: ((J8 52)) :: (.bool false) :: (.slice (some ad14) na ca) :: (.pointer (some (ad14.add 0))) :: (.int .i32 (rdI La 0)) :: (.slice (some ad15) nb cb) :: (.pointer (some (ad15.add 0))) :: (.int .i32 (rdI Lb 0)) :: (.bool false) :: ((J8 61)) :: ((J8 62)) :: ((J8 63)) :: ((J8 64)) :: ((J8 65)) :: ((J8 66)) :: ((J8 67)) :: ((J8 68)) :: (.bool true) :: (.slice (some ad14) na ca) :: (.pointer (some (ad14.add 0))) :: (.int .i32 (rdI La 0)) :: (.slice (some ad15) nb cb) :: (.pointer (some (ad15.add 0))) :: (.int .i32 (rdI Lb 0)) :: (.bool true) :: (.slice Ao out.length co) :: (.slice (some ad15) nb cb) :: (.pointer (some (ad15.add 0))) :: (.int .i32 (rdI Lb 0)) :: (.slice (some ⟨g27, 0, none⟩) 1 1) :: (.slice A29 xs32.length c30) :: (.slice (some ad15) nb cb) :: (.slice (cutA (some ad15) cb 1 1) (nb - 1) (cb - 1)) :: undef :: undef :: undef :: undef :: undef :: undef :: undef :: undef :: undef :: undef :: undef :: undef :: undef :: undef :: undef :: undef :: undef :: undef :: []) k_ undef), xs32, A29, c30, La, some ad14, na, ca, (Lb.drop 1), (cutA (some ad15) cb 1 1), (nb - 1), (cb - 1), congrArg Fr (by kernel_rfl), rfl, (by rw [xs32_]; exact mgs_r hP (by omega) (by omega) hc25), hAa, hna, hca, (rd_cut1 hAb (by omega) hcb), (by rw [List.length_drop]; omega), (by rw [List.length_drop]; omega), HS⟩
        · skip
          refine qs (.bool false) (by kernel_rfl) (R_nbool (p := (rdI La 0) > (rdI Lb 0)) (by kernel_rfl) (hc25)) ?_
          refine wpStill_nil ?_
          refine ql (.bool false) (by kernel_rfl) (by kernel_rfl) ?_
          refine wpList_nil ?_
          refine x_then ?_
          refine wp_cond_false (by kernel_rfl) ?_
          refine t_start HS (row Ao out.length co (ci .i32 out) 21 1).own 13 (by kernel_rfl) rfl ?_
          intro W33 H_ HD_
          clear HD_
          replace HS : St W (owns []) W33 [row Ao out.length co (ci .i32 out) 21 1] := H_
          clear H_
          have HV := HS
          have HK := Kpt.refl (row Ao out.length co (ci .i32 out) 21 1).own W33
          refine t_q (n := 12) 0 (.slice Ao out.length co) rfl (by kernel_rfl) (by kernel_rfl) (fun _ _ _ h => h) (fun w' hk => (by kernel_rfl)) HK ?_
          refine t_q (n := 11) 1 (.slice (some ad14) na ca) rfl (by kernel_rfl) (by kernel_rfl) (fun _ _ _ h => h) (fun w' hk => (by kernel_rfl)) HK ?_
          refine t_q (n := 10) 2 (.pointer (some (ad14.add 0))) rfl (by kernel_rfl) (by kernel_rfl) (fun _ _ _ h => h) (fun w' hk => (R_indexA1 (k := .i64) (p := ad14) (n := na) (c := ca) (i := 0) (by kernel_rfl) (by kernel_rfl) Try.underlying75 (by kernel_rfl) (by omega) (by omega))) HK ?_
          refine t_q (n := 9) 3 (.int .i32 (rdI La 0)) rfl (by kernel_rfl) (by kernel_rfl) (fun _ _ _ h => h) (fun w' hk => (R_load (p := ad14.add 0) (by kernel_rfl) (by kernel_rfl) (by kernel_rfl) (HV.oldK (i := 0) rfl hk (hAa.at_ (ci_rd (i := 0) (by omega) (by omega)))))) HK ?_
          refine t_q (n := 8) 6 (.slice (some ad14) na ca) rfl (by kernel_rfl) (by kernel_rfl) (fun _ _ _ h => h) (fun w' hk => (by kernel_rfl)) HK ?_
          refine t_q (n := 7) 7 (.slice (cutA (some ad14) ca 1 1) (na - 1) (ca - 1)) rfl (by kernel_rfl) (by kernel_rfl) (fun _ _ _ h => h) (fun w' hk => (R_sliceL (k := .i64) (A := some ad14) (n := na) (c := ca) (i := 1) (by kernel_rfl) (by kernel_rfl) Try.underlying75 (by kernel_rfl) (by omega) (by omega))) HK ?_
          refine t_q (n := 6) 8 (.slice (some ad15) nb cb) rfl (by kernel_rfl) (by kernel_rfl) (fun _ _ _ h => h) (fun w' hk => (by kernel_rfl)) HK ?_
          refine t_q (n := 5) 9 (.slice (cutA (some ad15) cb 1 1) (nb - 1) (cb - 1)) rfl (by kernel_rfl) (by kernel_rfl) (fun _ _ _ h => h) (fun w' hk => (R_sliceL (k := .i64) (A := some ad15) (n := nb) (c := cb) (i := 1) (by kernel_rfl) (by kernel_rfl) Try.underlying75 (by kernel_rfl) (by omega) (by omega))) HK ?_
          obtain ⟨g34, W35, hg_, hw_, H_, hk_⟩ := ex_lit HS 1 [.int .i32 (rdI La 0)] 21 1 rfl (by decide)
          refine t_e (n := 4) 4 (.slice (some ⟨g34, 0, none⟩) 1 1) rfl (by kernel_rfl) (by kernel_rfl) (by subst hg_; subst hw_; kernel_rfl) (HK.tr hk_) ?_
          replace HK := HK.tr hk_
          clear hk_
          clear hg_ hw_
          replace HS : St W (owns []) W35 [row (some ⟨g34, 0, none⟩) 1 1 (ci .i32 ([rdI La 0])) 21 1, row Ao out.length co (ci .i32 out) 21 1] := H_.cast_ (by kernel_rfl)
          clear H_
          obtain ⟨xs39, xs39_⟩ : ∃ z_ : List Int, z_ = out ++ ([rdI La 0]) := ⟨_, rfl⟩
          have xs39l : xs39.length = out.length + 1 := by rw [xs39_, List.length_append] <;> (try simp only [List.length_cons, List.length_nil]) <;> omega
          obtain ⟨A36, c37, W38, hrun_, H_, hk_⟩ := ex_append (P := Try.prog) (ty := 75) (ps := "sparse.go:71") (af := #[{ on := 0, ground := Go.Ground.data }, { on := 4, ground := Go.Ground.data }]) (gd := none) (dst := some 48) (t := 75) (s := (Go.Operand.tmp 43)) (x := (Go.Operand.tmp 47)) HS 1 rfl (Src.of_row HS (i := 0) rfl ci_one) [.int .i32 0] 4 xs39.length (ci .i32 xs39) (by omega) (by rw [xs39_, ci_app]) (by kernel_rfl) (by kernel_rfl) Try.underlying75 (by kernel_rfl) (by kernel_rfl) (by kernel_rfl) (by kernel_rfl) (by decide) (by omega) (by omega)
          refine t_e (n := 3) 5 (.slice A36 xs39.length c37) rfl (by kernel_rfl) (by kernel_rfl) hrun_ (HK.trN hk_) ?_
          replace HK := HK.trN hk_
          clear hk_ hrun_
          replace HS : St W (owns []) W38 [row (some ⟨g34, 0, none⟩) 1 1 (ci .i32 ([rdI La 0])) 21 1, row A36 xs39.length c37 (ci .i32 xs39) 21 1] := H_
          clear H_
          refine t_q (n := 2) 10 (.slice A36 xs39.length c37) rfl (by kernel_rfl) (by kernel_rfl) (fun _ _ _ h => h) (fun w' hk => (by kernel_rfl)) HK ?_
          refine t_q (n := 1) 11 (.slice (cutA (some ad14) ca 1 1) (na - 1) (ca - 1)) rfl (by kernel_rfl) (by kernel_rfl) (fun _ _ _ h => h) (fun w' hk => (by kernel_rfl)) HK ?_
          refine t_q (n := 0) 12 (.slice (cutA (some ad15) cb 1 1) (nb - 1) (cb - 1)) rfl (by kernel_rfl) (by kernel_rfl) (fun _ _ _ h => h) (fun w' hk => (by kernel_rfl)) HK ?_
          refine t_done (by kernel_rfl) ?_
          clear HV HK
          refine x_inb ?_
          refine x_inb ?_
          replace HS := HS.drop1
          refine x_then ?_
          exact ⟨(na - 1) + (nb - 1), by omega, (fun k_ : Nat => List.getD ((.pointer (some ⟨g, 0, none⟩)) :: (.pointer (some ⟨h, 0, none⟩)) :: undef :: undef :: (.bool false) :: (.slice A36 xs39.length c37) :: (.slice (cutA (some ad14) ca 1 1) (na - 1) (ca - 1)) :: (.slice (cutA (some ad15) cb 1 1) (nb - 1) (cb - 1)) :: undef :: (.pointer (some ⟨g, 0, none⟩)) :: (.bool false) :: (.bool false) :: (.pointer (some ⟨h, 0, none⟩)) :: (.bool false) :: (.bool false) :: (.pointer (some ⟨g, 0, none⟩)) :: (.pointer (some ⟨g, 0, none⟩)) :: (.pointer (some ⟨g, 0, none⟩)) :: (.slice A L.length c) :: (.int .i64 (L.length : Int)) :: (.pointer (some ⟨h, 0, none⟩)) :: (.pointer (some ⟨h, 0, none⟩)) :: (.pointer (some ⟨h, 0, none⟩)) :: (.slice B M.length c2) :: (.int .i64 (M.length : Int)) :: (.int .i64 ((L.length : Int) + (M.length : Int))) :: (.slice (some ⟨g5, 0, none⟩) 0 (((L.length : Int) + (M.length : Int)).toNat)) :: (.pointer (some ⟨g, 0, none⟩)) :: (.pointer (some ⟨g, 0, none⟩)) :: (.pointer (some ⟨g, 0, none⟩)) :: (.slice A L.length c) :: (.pointer (some ⟨h, 0, none⟩)) :: (.pointer (some ⟨h, 0, none⟩)) :: (.pointer (some ⟨h, 0, none⟩)) :: (.slice B M.length c2) :: (.slice (some ad14) na ca) :: (.int .i64 (na : Int)) :: (.bool true) :: (.bool true) :: (.slice (some ad15) nb cb) :: (.int .i64 (nb : Int)) :: (.bool true) :: (.bool true) :: (.slice Ao out.length co) :: (.slice (some ad14) na ca) :: (.pointer (some (ad14.add 0))) :: (.int .i32 (rdI La 0)) :: (.slice (some ⟨g34, 0, none⟩) 1 1) :: (.slice A36 xs39.length c37) :: (.slice (some ad14) na ca) :: (.slice (cutA (some ad14) ca 1 1) (na - 1) (ca - 1)) :: (.slice (some ad15) nb cb) :: (.slice (cutA (some ad15) cb 1 1) (nb - 1) (cb - 1)) :: (.bool false) :: (.slice (some ad14) na ca) :: (.pointer (some (ad14.add 0))) :: (.int .i32 (rdI La 0)) :: (.slice (some ad15) nb cb) :: (.pointer (some (ad15.add 0))) :: (.int .i32 (rdI Lb 0)) :: (.bool false) :: ((J8 61)) :: ((J8 62)) :: ((J8 63)) :: ((J8 64)) :: ((J8 65)) :: ((J8 66)) :: ((J8 67)) :: ((J8 68)) :: (.bool false) :: (.slice (some ad14) na ca) :: (.pointer (some (ad14.add 0))) :: (.int .i32 (rdI La 0)) :: (.slice (some ad15) nb cb) :: (.pointer (some (ad15.add 0))) :: (.int .i32 (rdI Lb 0)) :: (.bool false) :: ((J8 77)) :: ((J8 78)) :: ((J8 79)) :: ((J8 80)) :: ((J8 81)) :: ((J8 82)) :: ((J8 83)) :: ((J8 84)) :: undef :: undef :: undef :: undef :: undef :: undef :: undef :: undef :: undef :: undef :: undef :: undef :: undef :: undef :: undef :: undef :: undef :: undef :: []) k_ undef), xs39, A36, c37, (La.drop 1), (cutA (some ad14) ca 1 1), (na - 1), (ca - 1), (Lb.drop 1), (cutA (some ad15) cb 1 1), (nb - 1), (cb - 1), congrArg Fr (by kernel_rfl), rfl, (by rw [xs39_]; exact mgs_b hP (by omega) (by omega) hc16 hc25), (rd_cut1 hAa (by omega) hca), (by rw [List.length_drop]; omega), (by rw [List.length_drop]; omega), (rd_cut1 hAb (by omega) hcb), (by rw [List.length_drop]; omega), (by rw [List.length_drop]; omega), HS⟩
    · skip
      refine ql (.bool false) (by kernel_rfl) (R_nbool (p := (nb : Int) > (0 : Int)) (by kernel_rfl) (hc12)) ?_
      refine ql (.bool false) (by kernel_rfl) (by kernel_rfl) ?_
      refine wpList_nil ?_
      refine x_then ?_
      refine wp_cond_false (by kernel_rfl) ?_
      refine wp_exit ?_
      refine x_thenE ?_
      refine x_thenE ?_
      refine x_hit ?_
      refine x_then ?_
      refine wp_seq ?_
      have hmt := mg_end hP hs.1 (by first | exact .inl (List.eq_nil_of_length_eq_zero (by omega)) | exact .inr (List.eq_nil_of_length_eq_zero (by omega)))
      refine wp_region_lit ?_
      refine ql (.slice Ao out.length co) (by kernel_rfl) (by kernel_rfl) ?_
      refine ql (.slice Aa na ca) (by kernel_rfl) (by kernel_rfl) ?_
      obtain ⟨xs43, xs43_⟩ : ∃ z_ : List Int, z_ = out ++ La := ⟨_, rfl⟩
      have xs43l : xs43.length = out.length + na := by rw [xs43_, List.length_append] <;> (try simp only [List.length_cons, List.length_nil]) <;> omega
      refine ka1 HS 0 rfl (Src.of_rd' (n := na) (c := ca) (z := 1) (hAa.old0 HS) (by rw [ci_len]; omega) (by decide) ci_one) [.int .i32 0] 4 xs43.length (ci .i32 xs43) (by omega) (by rw [xs43_, ci_app]) (by kernel_rfl) (by kernel_rfl) (by kernel_rfl) Try.underlying75 (by kernel_rfl) (by kernel_rfl) (by kernel_rfl) (by kernel_rfl) (by decide) (by omega) (by omega) ?_
      intro A40 c41 W42 H_
      replace HS : St W (owns []) W42 [row A40 xs43.length c41 (ci .i32 xs43) 21 1] := H_
      clear H_
      refine ql (.slice Ab nb cb) (by kernel_rfl) (by kernel_rfl) ?_
      obtain ⟨xs47, xs47_⟩ : ∃ z_ : List Int, z_ = xs43 ++ Lb := ⟨_, rfl⟩
      have xs47l : xs47.length = xs43.length + nb := by rw [xs47_, List.length_append] <;> (try simp only [List.length_cons, List.length_nil]) <;> omega
      refine ka1 HS 0 rfl (Src.of_rd' (n := nb) (c := cb) (z := 1) (hAb.old0 HS) (by rw [ci_len]; omega) (by decide) ci_one) [.int .i32 0] 4 xs47.length (ci .i32 xs47) (by omega) (by rw [xs47_, ci_app]) (by kernel_rfl) (by kernel_rfl) (by kernel_rfl) Try.underlying75 (by kernel_rfl) (by kernel_rfl) (by kernel_rfl) (by kernel_rfl) (by decide) (by omega) (by omega) ?_
      intro A44 c45 W46 H_
      replace HS : St W (owns []) W46 [row A44 xs47.length c45 (ci .i32 xs47) 21 1] := H_
      clear H_
      refine ql (.slice A44 xs47.length c45) (by kernel_rfl) (by kernel_rfl) ?_
      refine wpList_nil ?_
      refine x_then ?_
      refine wp_seq ?_
      refine wp_region_lit ?_
      refine ql (.slice A44 xs47.length c45) (by kernel_rfl) (by kernel_rfl) ?_
      refine ql (.int .i64 (xs47.length : Int)) (by kernel_rfl) (by kernel_rfl) ?_
      refine ql (.pointer (some ⟨g, 0, none⟩)) (by kernel_rfl) (by kernel_rfl) ?_
      refine ql (.pointer (some ⟨g, 0, none⟩)) (by kernel_rfl) (by kernel_rfl) ?_
      refine ql (.pointer (some ⟨g, 0, none⟩)) (by kernel_rfl) (by kernel_rfl) ?_
      refine ql (.slice A L.length c) (by kernel_rfl) (R_load (p := ⟨g, 0, none⟩) (by kernel_rfl) (by kernel_rfl) (by kernel_rfl) (HS.old0 hzg)) ?_
      refine ql (.int .i64 (L.length : Int)) (by kernel_rfl) (by kernel_rfl) ?_
      by_cases hc48 : (xs47.length : Int) > (L.length : Int)
      · skip
        refine ql (.bool true) (by kernel_rfl) (R_bool (p := (xs47.length : Int) > (L.length : Int)) (by kernel_rfl) (hc48)) ?_
        refine ql (.bool true) (by kernel_rfl) (by kernel_rfl) ?_
        refine wpList_nil ?_
        refine x_then ?_
        refine wp_seq ?_
        replace HS : St W M_ W46 [row A44 xs47.length c45 (ci .i32 xs47) 21 1, blk g [.slice A L.length c] 77, row A L.length c (ci .i32 L) 21 1, blk h [.slice B M.length c2] 77, row B M.length c2 (ci .i32 M) 21 1] := HB1.join (F := []) (G := [row A44 xs47.length c45 (ci .i32 xs47) 21 1]) HS
        refine wp_region_lit ?_
        refine ql (.pointer (some ⟨g, 0, none⟩)) (by kernel_rfl) (by kernel_rfl) ?_
        refine ql (.slice A44 xs47.length c45) (by kernel_rfl) (by kernel_rfl) ?_
        refine ql (.pointer (some ⟨g, 0, none⟩)) (by kernel_rfl) (by kernel_rfl) ?_
        refine ql (.pointer (some ⟨g, 0, none⟩)) (by kernel_rfl) (by kernel_rfl) ?_
        refine ks (v := .slice A44 xs47.length c45) HS 1 rfl (0) [.slice A44 xs47.length c45] (by kernel_rfl) (by kernel_rfl) (by kernel_rfl) (by kernel_rfl) (by kernel_rfl) (one_ (by kernel_rfl)) (Nat.le_of_ble_eq_true rfl) rfl ?_
        intro W49 H_
        replace HS : St W M_ W49 [row A44 xs47.length c45 (ci .i32 xs47) 21 1, blk g [.slice A44 xs47.length c45] 77, row A L.length c (ci .i32 L) 21 1, blk h [.slice B M.length c2] 77, row B M.length c2 (ci .i32 M) 21 1] := H_
        clear H_
        refine wpList_nil ?_
        refine x_then ?_
        refine wp_seq ?_
        refine wp_region_lit ?_
        refine ql (.bool true) (by kernel_rfl) (by kernel_rfl) ?_
        refine ql (.bool true) (by kernel_rfl) (by kernel_rfl) ?_
        refine wpList_nil ?_
        refine x_then ?_
        refine wp_ret ?_
        refine ret_ (.bool true) (by kernel_rfl) ?_
        replace HS : St W M_ W49 [blk g [.slice A44 xs47.length c45] 77, row A44 xs47.length c45 (ci .i32 xs47) 21 1, blk h [.slice B M.length c2] 77, row B M.length c2 (ci .i32 M) 21 1] := St.tail (F := [row A L.length c (ci .i32 L) 21 1]) (HS.perm (perm_ [2, 1, 0, 3, 4] (by kernel_rfl) rfl))
        have hq : xs47 = uni L M := by rw [xs47_, xs43_]; exact hmt
        rw [hq] at HS
        have hb : newB L M = true := by rw [newB_len hs2.1, ← hq]; exact decide_eq_true (by omega)
        exact ⟨_, _, by rw [hb], HS⟩
      · skip
        refine ql (.bool false) (by kernel_rfl) (R_nbool (p := (xs47.length : Int) > (L.length : Int)) (by kernel_rfl) (hc48)) ?_
        refine ql (.bool false) (by kernel_rfl) (by kernel_rfl) ?_
        refine wpList_nil ?_
        refine x_then ?_
        refine wp_seq ?_
        replace HS : St W M_ W46 [row A44 xs47.length c45 (ci .i32 xs47) 21 1, blk g [.slice A L.length c] 77, row A L.length c (ci .i32 L) 21 1, blk h [.slice B M.length c2] 77, row B M.length c2 (ci .i32 M) 21 1] := HB1.join (F := []) (G := [row A44 xs47.length c45 (ci .i32 xs47) 21 1]) HS
        refine wp_region_lit ?_
        refine ql (.pointer (some ⟨g, 0, none⟩)) (by kernel_rfl) (by kernel_rfl) ?_
        refine ql (.slice A44 xs47.length c45) (by kernel_rfl) (by kernel_rfl) ?_
        refine ql (.pointer (some ⟨g, 0, none⟩)) (by kernel_rfl) (by kernel_rfl) ?_
        refine ql (.pointer (some ⟨g, 0, none⟩)) (by kernel_rfl) (by kernel_rfl) ?_
        refine ks (v := .slice A44 xs47.length c45) HS 1 rfl (0) [.slice A44 xs47.length c45] (by kernel_rfl) (by kernel_rfl) (by kernel_rfl) (by kernel_rfl) (by kernel_rfl) (one_ (by kernel_rfl)) (Nat.le_of_ble_eq_true rfl) rfl ?_
        intro W50 H_
        replace HS : St W M_ W50 [row A44 xs47.length c45 (ci .i32 xs47) 21 1, blk g [.slice A44 xs47.length c45] 77, row A L.length c (ci .i32 L) 21 1, blk h [.slice B M.length c2] 77, row B M.length c2 (ci .i32 M) 21 1] := H_
        clear H_
        refine wpList_nil ?_
        refine x_then ?_
        refine wp_seq ?_
        refine wp_region_lit ?_
        refine ql (.bool false) (by kernel_rfl) (by kernel_rfl) ?_
        refine ql (.bool false) (by kernel_rfl) (by kernel_rfl) ?_
        refine wpList_nil ?_
        refine x_then ?_
        refine wp_ret ?_
        refine ret_ (.bool false) (by kernel_rfl) ?_
        replace HS : St W M_ W50 [blk g [.slice A44 xs47.length c45] 77, row A44 xs47.length c45 (ci .i32 xs47) 21 1, blk h [.slice B M.length c2] 77, row B M.length c2 (ci .i32 M) 21 1] := St.tail (F := [row A L.length c (ci .i32 L) 21 1]) (HS.perm (perm_ [2, 1, 0, 3, 4] (by kernel_rfl) rfl))
        have hq : xs47 = uni L M := by rw [xs47_, xs43_]; exact hmt
        rw [hq] at HS
        have hb : newB L M = false := by rw [newB_len hs2.1, ← hq]; exact decide_eq_false (by omega)
        exact ⟨_, _, by rw [hb], HS⟩
  · skip
    refine ql (.bool false) (by kernel_rfl) (R_nbool (p := (na : Int) > (0 : Int)) (by kernel_rfl) (hc11)) ?_
    refine ql (.bool false) (by kernel_rfl) (by kernel_rfl) ?_
    refine qln (by kernel_rfl) ?_
    refine qln (by kernel_rfl) ?_
    refine qln (by kernel_rfl) ?_
    refine ql (.bool false) (by kernel_rfl) (by kernel_rfl) ?_
    refine wpList_nil ?_
    refine x_then ?_
    refine wp_cond_false (by kernel_rfl) ?_
    refine wp_exit ?_
    refine x_thenE ?_
    refine x_thenE ?_
    refine x_hit ?_
    refine x_then ?_
    refine wp_seq ?_
    have hmt := mg_end hP hs.1 (by first | exact .inl (List.eq_nil_of_length_eq_zero (by omega)) | exact .inr (List.eq_nil_of_length_eq_zero (by omega)))
    refine wp_region_lit ?_
    refine ql (.slice Ao out.length co) (by kernel_rfl) (by kernel_rfl) ?_
    refine ql (.slice Aa na ca) (by kernel_rfl) (by kernel_rfl) ?_
    obtain ⟨xs54, xs54_⟩ : ∃ z_ : List Int, z_ = out ++ La := ⟨_, rfl⟩
    have xs54l : xs54.length = out.length + na := by rw [xs54_, List.length_append] <;> (try simp only [List.length_cons, List.length_nil]) <;> omega
    refine ka1 HS 0 rfl (Src.of_rd' (n := na) (c := ca) (z := 1) (hAa.old0 HS) (by rw [ci_len]; omega) (by decide) ci_one) [.int .i32 0] 4 xs54.length (ci .i32 xs54) (by omega) (by rw [xs54_, ci_app]) (by kernel_rfl) (by kernel_rfl) (by kernel_rfl) Try.underlying75 (by kernel_rfl) (by kernel_rfl) (by kernel_rfl) (by kernel_rfl) (by decide) (by omega) (by omega) ?_
    intro A51 c52 W53 H_
    replace HS : St W (owns []) W53 [row A51 xs54.length c52 (ci .i32 xs54) 21 1] := H_
    clear H_
    refine ql (.slice Ab nb cb) (by kernel_rfl) (by kernel_rfl) ?_
    obtain ⟨xs58, xs58_⟩ : ∃ z_ : List Int, z_ = xs54 ++ Lb := ⟨_, rfl⟩
    have xs58l : xs58.length = xs54.length + nb := by rw [xs58_, List.length_append] <;> (try simp only [List.length_cons, List.length_nil]) <;> omega
    refine ka1 HS 0 rfl (Src.of_rd' (n := nb) (c := cb) (z := 1) (hAb.old0 HS) (by rw [ci_len]; omega) (by decide) ci_one) [.int .i32 0] 4 xs58.length (ci .i32 xs58) (by omega) (by rw [xs58_, ci_app]) (by kernel_rfl) (by kernel_rfl) (by kernel_rfl) Try.underlying75 (by kernel_rfl) (by kernel_rfl) (by kernel_rfl) (by kernel_rfl) (by decide) (by omega) (by omega) ?_
    intro A55 c56 W57 H_
    replace HS : St W (owns []) W57 [row A55 xs58.length c56 (ci .i32 xs58) 21 1] := H_
    clear H_
    refine ql (.slice A55 xs58.length c56) (by kernel_rfl) (by kernel_rfl) ?_
    refine wpList_nil ?_
    refine x_then ?_
    refine wp_seq ?_
    refine wp_region_lit ?_
    refine ql (.slice A55 xs58.length c56) (by kernel_rfl) (by kernel_rfl) ?_
    refine ql (.int .i64 (xs58.length : Int)) (by kernel_rfl) (by kernel_rfl) ?_
    refine ql (.pointer (some ⟨g, 0, none⟩)) (by kernel_rfl) (by kernel_rfl) ?_
    refine ql (.pointer (some ⟨g, 0, none⟩)) (by kernel_rfl) (by kernel_rfl) ?_
    refine ql (.pointer (some ⟨g, 0, none⟩)) (by kernel_rfl) (by kernel_rfl) ?_
    refine ql (.slice A L.length c) (by kernel_rfl) (R_load (p := ⟨g, 0, none⟩) (by kernel_rfl) (by kernel_rfl) (by kernel_rfl) (HS.old0 hzg)) ?_
    refine ql (.int .i64 (L.length : Int)) (by kernel_rfl) (by kernel_rfl) ?_
    by_cases hc59 : (xs58.length : Int) > (L.length : Int)
    · skip
      refine ql (.bool true) (by kernel_rfl) (R_bool (p := (xs58.length : Int) > (L.length : Int)) (by kernel_rfl) (hc59)) ?_
      refine ql (.bool true) (by kernel_rfl) (by kernel_rfl) ?_
      refine wpList_nil ?_
      refine x_then ?_
      refine wp_seq ?_
      replace HS : St W M_ W57 [row A55 xs58.length c56 (ci .i32 xs58) 21 1, blk g [.slice A L.length c] 77, row A L.length c (ci .i32 L) 21 1, blk h [.slice B M.length c2] 77, row B M.length c2 (ci .i32 M) 21 1] := HB1.join (F := []) (G := [row A55 xs58.length c56 (ci .i32 xs58) 21 1]) HS
      refine wp_region_lit ?_
      refine ql (.pointer (some ⟨g, 0, none⟩)) (by kernel_rfl) (by kernel_rfl) ?_
      refine ql (.slice A55 xs58.length c56) (by kernel_rfl) (by kernel_rfl) ?_
      refine ql (.pointer (some ⟨g, 0, none⟩)) (by kernel_rfl) (by kernel_rfl) ?_
      refine ql (.pointer (some ⟨g, 0, none⟩)) (by kernel_rfl) (by kernel_rfl) ?_
      refine ks (v := .slice A55 xs58.length c56) HS 1 rfl (0) [.slice A55 xs58.length c56] (by kernel_rfl) (by kernel_rfl) (by kernel_rfl) (by kernel_rfl) (by kernel_rfl) (one_ (by kernel_rfl)) (Nat.le_of_ble_eq_true rfl) rfl ?_
      intro W60 H_
      replace HS : St W M_ W60 [row A55 xs58.length c56 (ci .i32 xs58) 21 1, blk g [.slice A55 xs58.length c56] 77, row A L.length c (ci .i32 L) 21 1, blk h [.slice B M.length c2] 77, row B M.length c2 (ci .i32 M) 21 1] := H_
      clear H_
      refine wpList_nil ?_
      refine x_then ?_
      refine wp_seq ?_
      refine wp_region_lit ?_
      refine ql (.bool true) (by kernel_rfl) (by kernel_rfl) ?_
      refine ql (.bool true) (by kernel_rfl) (by kernel_rfl) ?_
      refine wpList_nil ?_
      refine x_then ?_
      refine wp_ret ?_
      refine ret_ (.bool true) (by kernel_rfl) ?_
      replace HS : St W M_ W60 [blk g [.slice A55 xs58.length c56] 77, row A55 xs58.length c56 (ci .i32 xs58) 21 1, blk h [.slice B M.length c2] 77, row B M.length c2 (ci .i32 M) 21 1] := St.tail (F := [row A L.length c (ci .i32 L) 21 1]) (HS.perm (perm_ [2, 1, 0, 3, 4] (by kernel_rfl) rfl))
      have hq : xs58 = uni L M := by rw [xs58_, xs54_]; exact hmt
      rw [hq] at HS
      have hb : newB L M = true := by rw [newB_len hs2.1, ← hq]; exact decide_eq_true (by omega)
      exact ⟨_, _, by rw [hb], HS⟩
    · skip
      refine ql (.bool false) (by kernel_rfl) (R_nbool (p := (xs58.length : Int) > (L.length : Int)) (by kernel_rfl) (hc59)) ?_
      refine ql (.bool false) (by kernel_rfl) (by kernel_rfl) ?_
      refine wpList_nil ?_
      refine x_then ?_
      refine wp_seq ?_
      replace HS : St W M_ W57 [row A55 xs58.length c56 (ci .i32 xs58) 21 1, blk g [.slice A L.length c] 77, row A L.length c (ci .i32 L) 21 1, blk h [.slice B M.length c2] 77, row B M.length c2 (ci .i32 M) 21 1] := HB1.join (F := []) (G := [row A55 xs58.length c56 (ci .i32 xs58) 21 1]) HS
      refine wp_region_lit ?_
      refine ql (.pointer (some ⟨g, 0, none⟩)) (by kernel_rfl) (by kernel_rfl) ?_
      refine ql (.slice A55 xs58.length c56) (by kernel_rfl) (by kernel_rfl) ?_
      refine ql (.pointer (some ⟨g, 0, none⟩)) (by kernel_rfl) (by kernel_rfl) ?_
      refine ql (.pointer (some ⟨g, 0, none⟩)) (by kernel_rfl) (by kernel_rfl) ?_
      refine ks (v := .slice A55 xs58.length c56) HS 1 rfl (0) [.slice A55 xs58.length c56] (by kernel_rfl) (by kernel_rfl) (by kernel_rfl) (by kernel_rfl) (by kernel_rfl) (one_ (by kernel_rfl)) (Nat.le_of_ble_eq_true rfl) rfl ?_
      intro W61 H_
      replace HS : St W M_ W61 [row A55 xs58.length c56 (ci .i32 xs58) 21 1, blk g [.slice A55 xs58.length c56] 77, row A L.length c (ci .i32 L) 21 1, blk h [.slice B M.length c2] 77, row B M.length c2 (ci .i32 M) 21 1] := H_
      clear H_
      refine wpList_nil ?_
      refine x_then ?_
      refine wp_seq ?_
      refine wp_region_lit ?_
      refine ql (.bool false) (by kernel_rfl) (by kernel_rfl) ?_
      refine ql (.bool false) (by kernel_rfl) (by kernel_rfl) ?_
      refine wpList_nil ?_
      refine x_then ?_
      refine wp_ret ?_
      refine ret_ (.bool false) (by kernel_rfl) ?_
      replace HS : St W M_ W61 [blk g [.slice A55 xs58.length c56] 77, row A55 xs58.length c56 (ci .i32 xs58) 21 1, blk h [.slice B M.length c2] 77, row B M.length c2 (ci .i32 M) 21 1] := St.tail (F := [row A L.length c (ci .i32 L) 21 1]) (HS.perm (perm_ [2, 1, 0, 3, 4] (by kernel_rfl) rfl))
      have hq : xs58 = uni L M := by rw [xs58_, xs54_]; exact hmt
      rw [hq] at HS
      have hb : newB L M = false := by rw [newB_len hs2.1, ← hq]; exact decide_eq_false (by omega)
      exact ⟨_, _, by rw [hb], HS⟩

set_option maxRecDepth 100000 in
set_option maxHeartbeats 1000000 in
theorem sall (g : Nat) (W : World) : Calls Try.prog 34 #[.pointer (some ⟨g, 0, none⟩)] W fun e W' => ∃ b, e = .returned (.func (.func 67) #[] #[.pointer (some ⟨b, 0, none⟩)]) ∧ St W (owns []) W' [blk b [.pointer (some ⟨g, 0, none⟩)] 24] := by
  have HS : St W (owns []) W [] := St.start W _
  refine calls_enter [.pointer (some ⟨g, 0, none⟩), undef, undef, undef] Try.func34 rfl (by kernel_rfl) ?_
  refine wp_seq ?_
  refine wp_region_lit ?_
  refine kb HS [.pointer (some ⟨g, 0, none⟩)] 24 (fun g => .pointer (some ⟨g, 0, none⟩)) (by kernel_rfl) (by kernel_rfl) ?_
  intro g1 W2 H_
  replace HS : St W (owns []) W2 [blk g1 [.pointer (some ⟨g, 0, none⟩)] 24] := H_
  clear H_
  refine ql (.nilFunc) (by kernel_rfl) (by kernel_rfl) ?_
  refine wpList_nil ?_
  refine x_then ?_
  refine wp_seq ?_
  refine wp_region_lit ?_
  refine ql (.func (.func 67) #[] #[.pointer (some ⟨g1, 0, none⟩)]) (by kernel_rfl) (by kernel_rfl) ?_
  refine ql (.func (.func 67) #[] #[.pointer (some ⟨g1, 0, none⟩)]) (by kernel_rfl) (by kernel_rfl) ?_
  refine wpList_nil ?_
  refine x_then ?_
  refine wp_ret ?_
  refine ret_ (.func (.func 67) #[] #[.pointer (some ⟨g1, 0, none⟩)]) (by kernel_rfl) ?_
  exact ⟨_, rfl, HS⟩

set_option maxRecDepth 100000 in
set_option maxHeartbeats 1000000 in
theorem sall_stops (b : Nat) (g c : Nat) (A : Option Addr) (L : List Int) (W : World) (hb : W.cell? ⟨b, 0, none⟩ = some (.pointer (some ⟨g, 0, none⟩))) (hz0 : W.cell? ⟨g, 0, none⟩ = some (.slice A L.length c)) (hr : Rd W A (ci .i32 L)) (hs : S31 L) (hl : L.length ≤ 100000) (m : Nat) : SeqStopsK Fence.wide m Try.prog 67 #[.pointer (some ⟨b, 0, none⟩)] encI (SpK b g c A L) (fun xs => xs = L) (fun pre => pre <+: L) L.length W := by
  intro l J Jx WA hW hJ hJx hY h0
  have HD0 := (show SpT b g c A L W from ⟨hb, hz0, hr⟩).below hW
  clear hb hz0 hr hW
  have HDc := HD0
  obtain ⟨hb, hz0, hr⟩ := HDc
  have hJ0 := h0
  refine (callsIn_wide (n := m)).2 ?_
  have HS : St WA (owns []) WA [] := St.start WA _
  refine calls_enter [.func (.yield l) #[] #[], .pointer (some ⟨b, 0, none⟩), undef, undef, undef, undef, undef, undef, undef, undef, undef, undef, undef, undef, undef, undef, undef, undef, undef, undef, undef] Try.func67 rfl (by kernel_rfl) ?_
  refine wp_seq ?_
  refine wp_region_lit ?_
  refine ql (.pointer (some ⟨g, 0, none⟩)) (by kernel_rfl) (R_load (p := ⟨b, 0, none⟩) (by kernel_rfl) (by kernel_rfl) (by kernel_rfl) (HS.old0 hb)) ?_
  refine qc (f := 13) (args := #[.pointer (some ⟨g, 0, none⟩)]) (by kernel_rfl) (R_call #[.pointer (some ⟨g, 0, none⟩)] Try.func13 (by kernel_rfl) (by kernel_rfl) (by kernel_rfl)) ?_
  refine (slen g c A L _ (HS.old0 hz0) (hr.old0 HS) hs hl).mono ?_
  rintro e W1 ⟨rfl, H_⟩
  refine ⟨_, rfl, ?_⟩
  replace HS : St WA (owns []) W1 [] := HS.join (F := []) (G := []) H_
  clear H_
  refine ql (.int .i64 0) (by kernel_rfl) (by kernel_rfl) ?_
  refine wpList_nil ?_
  refine x_then ?_
  refine wp_block ?_
  have HB := HS.kept.below owns_nil
  have HD := HD0.below HB
  have HJ := hJ _ _ _ none h0 HS.grownBy0 (fun _ h_ => nomatch h_)
  refine wp_loop_ghost (fun kq a' w' => ∃ (J1 : Nat → Value) (i : Int), a' = Fr [.func (.yield l) #[] #[], .pointer (some ⟨b, 0, none⟩), undef, (J1 3), .pointer (some ⟨g, 0, none⟩), .int .i64 (L.length : Int), .int .i64 i, (J1 7), (J1 8), (J1 9), (J1 10), (J1 11), (J1 12), (J1 13), (J1 14), (J1 15), (J1 16), (J1 17), (J1 18), (J1 19), (J1 20)] ∧ kq = L.length - i.toNat ∧ 0 ≤ i ∧ i ≤ L.length ∧ SpT b g c A L w' ∧ J (L.take i.toNat) w') L.length ⟨(fun k_ : Nat => List.getD [.func (.yield l) #[] #[], .pointer (some ⟨b, 0, none⟩), undef, undef, .pointer (some ⟨g, 0, none⟩), .int .i64 (L.length : Int), .int .i64 0, undef, undef, undef, undef, undef, undef, undef, undef, undef, undef, undef, undef, undef, undef] k_ undef), 0, congrArg Fr (by kernel_rfl), rfl, by omega, by omega, HD, HJ⟩ ?_
  clear HS HB HD HJ hJ0 HD0 hb hz0 hr
  intro kq a' WB hrel
  obtain ⟨J1, i, rfl, hk, i0, i1, HD, HJ⟩ := hrel
  have HDc := HD
  obtain ⟨hb, hz0, hr⟩ := HDc
  have HS : St WB (owns []) WB [] := St.start WB _
  by_cases hil : i < (L.length : Int)
  · skip
    have hdc := drop_cons i0 hil
    have htk : L.take (i + 1).toNat = L.take i.toNat ++ [rdI L i] := by rw [show (i + 1).toNat = i.toNat + 1 by omega, List.take_add_one, rdI_eq i0 hil]; rfl
    have hlx := hs.2 _ (mem_rd i0 hil)
    have hY1 := hY (L.take i.toNat) (rdI L i) WB HJ (by rw [List.length_take]; omega)
    refine wp_seq ?_
    refine wp_region_lit ?_
    refine ql (.bool true) (by kernel_rfl) (R_bool (p := i < (L.length : Int)) (by kernel_rfl) (by omega)) ?_
    refine wpList_nil ?_
    refine x_then ?_
    refine wp_seq ?_
    refine wp_cond_true (by kernel_rfl) ?_
    refine wp_skip ?_
    refine x_then ?_
    refine wp_seq ?_
    refine wp_block ?_
    refine wp_seq ?_
    refine wp_region_lit ?_
    refine ql (.int .i64 i) (by kernel_rfl) (by kernel_rfl) ?_
    refine ql (.int .i64 i) (by kernel_rfl) (by kernel_rfl) ?_
    refine wpList_nil ?_
    refine x_then ?_
    refine wp_seq ?_
    refine wp_region_yield ?_
    refine yq (.func (.yield l) #[] #[]) (by kernel_rfl) (by intro c_ h_; cases h_) (by kernel_rfl) ?_
    refine yq (.pointer (some ⟨g, 0, none⟩)) (by kernel_rfl) (by intro c_ h_; cases h_) (R_load (p := ⟨b, 0, none⟩) (by kernel_rfl) (by kernel_rfl) (by kernel_rfl) (HS.old0 hb)) ?_
    refine yq (.pointer (some ⟨g, 0, none⟩)) (by kernel_rfl) (by intro c_ h_; cases h_) (by kernel_rfl) ?_
    refine yq (.pointer (some ⟨g, 0, none⟩)) (by kernel_rfl) (by intro c_ h_; cases h_) (by kernel_rfl) ?_
    refine yq (.slice A L.length c) (by kernel_rfl) (by intro c_ h_; cases h_) (R_load (p := ⟨g, 0, none⟩) (by kernel_rfl) (by kernel_rfl) (by kernel_rfl) (HS.old0 hz0)) ?_
    refine yq (.int .i64 i) (by kernel_rfl) (by intro c_ h_; cases h_) (by kernel_rfl) ?_
    obtain ⟨ad2, rfl⟩ := Rd.isSome_ hr (by rw [ci_len]; omega)
    refine yq (.pointer (some (ad2.add i.toNat))) (by kernel_rfl) (by intro c_ h_; cases h_) (R_indexA1 (k := .i64) (p := ad2) (n := L.length) (c := c) (i := i) (by kernel_rfl) (by kernel_rfl) Try.underlying75 (by kernel_rfl) (by omega) (by omega)) ?_
    refine yq (.int .i32 (rdI L i)) (by kernel_rfl) (by intro c_ h_; cases h_) (R_load (p := ad2.add i.toNat) (by kernel_rfl) (by kernel_rfl) (by kernel_rfl) (HS.old0 (hr.at_ (ci_rd (i := i) (by omega) (by omega))))) ?_
    refine yq (.int .i64 (rdI L i)) (by kernel_rfl) (by intro c_ h_; cases h_) (R_int (by kernel_rfl) (w64 (by omega))) ?_
    refine yy #[.int .i64 (rdI L i)] (by kernel_rfl) (by kernel_rfl) (by kernel_rfl) hY1 ?_
    rintro e WC (⟨rfl, HJ3, HK3⟩ | ⟨rfl, HJ3⟩)
    · refine ⟨_, rfl, ?_⟩
      clear HS
      have HD3 := HK3 HD
      clear HD hb hz0 hr
      have HDc := HD3
      obtain ⟨hb, hz0, hr⟩ := HDc
      have HS : St WC (owns []) WC [] := St.start WC _
      refine yq (.bool false) (by kernel_rfl) (by intro c_ h_; cases h_) (by kernel_rfl) ?_
      refine wpListIn_nil ?_
      refine x_then ?_
      refine wp_cond_false (by kernel_rfl) ?_
      refine wp_skip ?_
      refine x_inb ?_
      refine x_then ?_
      refine wp_region_lit ?_
      refine ql (.int .i64 (i + 1)) (by kernel_rfl) (R_int (by kernel_rfl) (w64 (by omega))) ?_
      refine ql (.int .i64 (i + 1)) (by kernel_rfl) (by kernel_rfl) ?_
      refine wpList_nil ?_
      refine x_then ?_
      have HB := HS.kept.below owns_nil
      rw [← htk] at HJ3
      exact ⟨L.length - (i + 1).toNat, by omega, (fun k_ : Nat => List.getD [.func (.yield l) #[] #[], .pointer (some ⟨b, 0, none⟩), undef, .int .i64 i, .pointer (some ⟨g, 0, none⟩), .int .i64 (L.length : Int), .int .i64 (i + 1), .bool true, .int .i64 i, .func (.yield l) #[] #[], .pointer (some ⟨g, 0, none⟩), .pointer (some ⟨g, 0, none⟩), .pointer (some ⟨g, 0, none⟩), .slice (some ad2) L.length c, .int .i64 i, .pointer (some (ad2.add i.toNat)), .int .i32 (rdI L i), .int .i64 (rdI L i), .bool true, .bool false, .int .i64 (i + 1)] k_ undef), i + 1, congrArg Fr (by kernel_rfl), rfl, by omega, by omega, HD3.below HB, hJ _ _ _ none HJ3 HS.grownBy0 (fun _ h_ => nomatch h_)⟩
    · refine ⟨_, rfl, ?_⟩
      clear HS
      have HS : St WC (owns []) WC [] := St.start WC _
      refine yq (.bool true) (by kernel_rfl) (by intro c_ h_; cases h_) (by kernel_rfl) ?_
      refine wpListIn_nil ?_
      refine x_then ?_
      refine wp_cond_true (by kernel_rfl) ?_
      refine wp_ret ?_
      refine x_inbR ?_
      refine x_thenR ?_
      refine x_thenR ?_
      refine x_inbR ?_
      refine ret_ (.tuple #[]) (by kernel_rfl) ?_
      exact ⟨⟨_, rfl⟩, .inr ⟨L.take i.toNat ++ [rdI L i], ⟨L.drop (i + 1).toNat, by rw [List.append_assoc, List.singleton_append, ← hdc, List.take_append_drop]⟩, HJ3⟩⟩
  · skip
    refine wp_seq ?_
    refine wp_region_lit ?_
    refine ql (.bool false) (by kernel_rfl) (R_nbool (p := i < (L.length : Int)) (by kernel_rfl) (by omega)) ?_
    refine wpList_nil ?_
    refine x_then ?_
    refine wp_seq ?_
    refine wp_cond_false (by kernel_rfl) ?_
    refine wp_exit ?_
    refine x_thenE ?_
    refine x_thenE ?_
    refine x_hit ?_
    refine end_ (.tuple #[]) (by kernel_rfl) ?_
    have hi9 : i.toNat = L.length := by omega
    rw [hi9, List.take_length] at HJ
    exact ⟨⟨_, rfl⟩, .inl ⟨L, rfl, HJ⟩⟩

open Go.Shelf
set_option maxRecDepth 100000 in
set_option maxHeartbeats 1000000 in
theorem slist (g c : Nat) (A : Option Addr) (L : List Int) (W : World) (hz0 : W.cell? ⟨g, 0, none⟩ = some (.slice A L.length c)) (hr : Rd W A (ci .i32 L)) (hs : S31 L) (hl : L.length ≤ 100000) : Calls Try.prog 26 #[.pointer (some ⟨g, 0, none⟩)] W fun e W' => ∃ A' c', e = .returned (.slice A' L.length c') ∧ St W (owns []) W' [row A' L.length c' (ci .i64 L) 3 1] := by
  have HS : St W (owns []) W [] := St.start W _
  refine calls_enter [.pointer (some ⟨g, 0, none⟩), undef, undef, undef, undef, undef] Try.func26 rfl (by kernel_rfl) ?_
  refine wp_seq ?_
  refine wp_region_lit ?_
  refine ql (.slice none 0 0) (by kernel_rfl) (by kernel_rfl) ?_
  refine wpList_nil ?_
  refine x_then ?_
  refine wp_seq ?_
  refine wp_region_lit ?_
  refine ql (.pointer (some ⟨g, 0, none⟩)) (by kernel_rfl) (by kernel_rfl) ?_
  refine qc (f := 34) (args := #[.pointer (some ⟨g, 0, none⟩)]) (by kernel_rfl) (R_call #[.pointer (some ⟨g, 0, none⟩)] Try.func34 (by kernel_rfl) (by kernel_rfl) (by kernel_rfl)) ?_
  refine (sall g _).mono ?_
  rintro e W2 ⟨b1, rfl, H_⟩
  refine ⟨_, rfl, ?_⟩
  replace HS : St W (owns []) W2 [blk b1 [.pointer (some ⟨g, 0, none⟩)] 24] := HS.join (F := []) (G := [blk b1 [.pointer (some ⟨g, 0, none⟩)] 24]) H_
  clear H_
  refine qc (f := 61) (args := #[.func (.func 67) #[] #[.pointer (some ⟨b1, 0, none⟩)]]) (by kernel_rfl) (R_call #[.func (.func 67) #[] #[.pointer (some ⟨b1, 0, none⟩)]] Try.func61 (by kernel_rfl) (by kernel_rfl) (by kernel_rfl)) ?_
  have HDT : SpT b1 g c A L _ := ⟨HS.cell (i := 0) (j := 0) rfl rfl, HS.old0 hz0, hr.old0 HS⟩
  refine (colS 67 #[.pointer (some ⟨b1, 0, none⟩)] _ (enters_of Try.func67 (by kernel_rfl) rfl) (sall_stops b1 g c A L _ HDT.hb HDT.h0 HDT.hr hs hl 0) (fun h_ k_ => fun x_ => k_ (h_ x_)) (fun X Y hb_ => SpK.of HDT hb_) (by omega)).mono ?_
  rintro e W3 ⟨A8, c8, xs8, hS8, rfl, H_⟩
  have hS8 : L = xs8 := hS8.symm
  subst hS8
  refine ⟨_, rfl, ?_⟩
  replace HS : St W (owns []) W3 [row A8 L.length c8 (ci .i64 L) 3 1, blk b1 [.pointer (some ⟨g, 0, none⟩)] 24] := HS.join (F := []) (G := [row A8 L.length c8 (ci .i64 L) 3 1]) H_
  clear H_
  refine ql (.slice A8 L.length c8) (by kernel_rfl) (by kernel_rfl) ?_
  refine wpList_nil ?_
  refine x_then ?_
  refine wp_ret ?_
  refine ret_ (.slice A8 L.length c8) (by kernel_rfl) ?_
  replace HS : St W (owns []) W3 [row A8 L.length c8 (ci .i64 L) 3 1] := St.tail (F := [blk b1 [.pointer (some ⟨g, 0, none⟩)] 24]) (HS.perm (perm_ [1, 0] (by kernel_rfl) rfl))
  exact ⟨A8, c8, rfl, HS⟩

set_option maxRecDepth 100000 in
set_option maxHeartbeats 1000000 in
theorem sof (Al : Option Addr) (cl : Nat) (l : List Int) (W : World) (hra : Rd W Al (ci .i64 l)) (hl : l.length ≤ 1000) : Calls Try.prog 11 #[.slice Al l.length cl] W fun e W' => ∃ g A' c', e = .returned (.pointer (some ⟨g, 0, none⟩)) ∧ St W (owns []) W' [blk g [.slice A' ((ofL l).length) c'] 77, row A' ((ofL l).length) c' (ci .i32 (ofL l)) 21 1] := by
  have HS : St W (owns []) W [] := St.start W _
  refine calls_enter [.slice Al l.length cl, undef, undef, undef, undef, undef, undef, undef, undef, undef, undef, undef, undef, undef, undef, undef, undef, undef, undef] Try.func11 rfl (by kernel_rfl) ?_
  refine wp_seq ?_
  refine wp_region_lit ?_
  refine ql (.pointer none) (by kernel_rfl) (by kernel_rfl) ?_
  refine wpList_nil ?_
  refine x_then ?_
  refine wp_seq ?_
  refine wp_region_lit ?_
  refine ql (.agg #[.slice none 0 0]) (by kernel_rfl) (by kernel_rfl) ?_
  refine kb HS [.slice none 0 0] 77 (fun g => .pointer (some ⟨g, 0, none⟩)) (by kernel_rfl) (by kernel_rfl) ?_
  intro g1 W2 H_
  replace HS : St W (owns []) W2 [blk g1 [.slice none 0 0] 77] := H_
  clear H_
  refine ql (.pointer (some ⟨g1, 0, none⟩)) (by kernel_rfl) (by kernel_rfl) ?_
  refine wpList_nil ?_
  refine x_then ?_
  refine wp_seq ?_
  refine wp_seq ?_
  refine wp_region_lit ?_
  refine ql (.slice Al l.length cl) (by kernel_rfl) (by kernel_rfl) ?_
  refine ql (.int .i64 (l.length : Int)) (by kernel_rfl) (by kernel_rfl) ?_
  refine ql (.int .i64 0) (by kernel_rfl) (by kernel_rfl) ?_
  refine wpList_nil ?_
  refine x_then ?_
  refine wp_block ?_
  replace HS : St W (owns []) W2 [row none 0 0 (ci .i32 ([])) 21 1, blk g1 [.slice none 0 0] 77] := (HS.nilRow 21 1).cast_ (by kernel_rfl)
  replace HS : St W (owns []) W2 [blk g1 [.slice none 0 0] 77, row none 0 0 (ci .i32 ([])) 21 1] := HS.perm (perm_ [1, 0] (by kernel_rfl) rfl)
  refine wp_loop_ghost (fun kq a' w' => ∃ (J3 : Nat → Value) (k : Int) (L : List Int) (A : Option Addr) (c : Nat) , a' = Fr [.slice Al l.length cl, undef, .pointer none, .pointer (some ⟨g1, 0, none⟩), undef, (J3 5), .agg #[.slice none 0 0], .pointer (some ⟨g1, 0, none⟩), .slice Al l.length cl, .int .i64 (l.length : Int), .int .i64 k, (J3 11), (J3 12), (J3 13), (J3 14), (J3 15), (J3 16), (J3 17), undef] ∧ kq = (l.length - (k).toNat) ∧ (0 ≤ k) ∧ (k ≤ l.length) ∧ (OfP l L k) ∧ St W (owns []) w' [blk g1 [.slice A L.length c] 77, row A L.length c (ci .i32 L) 21 1]) (l.length - ((0 : Int)).toNat) ⟨(fun k_ : Nat => List.getD [.slice Al l.length cl, undef, .pointer none, .pointer (some ⟨g1, 0, none⟩), undef, undef, .agg #[.slice none 0 0], .pointer (some ⟨g1, 0, none⟩), .slice Al l.length cl, .int .i64 (l.length : Int), .int .i64 0, undef, undef, undef, undef, undef, undef, undef, undef] k_ undef), (0 : Int), [], none, 0, congrArg Fr (by kernel_rfl), rfl, by omega, by omega, ofP_start l, HS⟩ ?_
  clear HS
  intro kq4 a' W5 hrel
  obtain ⟨J3, k, L, A, c, rfl, hk, k0, k1, hP, HS⟩ := hrel
  have hol := ofP_len hP
  refine wp_seq ?_
  refine wp_region_lit ?_
  by_cases hc6 : k < (l.length : Int)
  · skip
    refine ql (.bool true) (by kernel_rfl) (R_bool (p := k < (l.length : Int)) (by kernel_rfl) (hc6)) ?_
    refine wpList_nil ?_
    refine x_then ?_
    refine wp_seq ?_
    refine wp_cond_true (by kernel_rfl) ?_
    refine wp_skip ?_
    refine x_then ?_
    refine wp_seq ?_
    refine wp_block ?_
    refine wp_seq ?_
    refine wp_region_lit ?_
    obtain ⟨ad7, rfl⟩ := Rd.isSome_ hra (by rw [ci_len]; omega)
    refine ql (.pointer (some (ad7.add k.toNat))) (by kernel_rfl) (R_indexA1 (k := .i64) (p := ad7) (n := l.length) (c := cl) (i := k) (by kernel_rfl) (by kernel_rfl) Try.underlying22 (by kernel_rfl) (by omega) (by omega)) ?_
    refine ql (.int .i64 (rdI l k)) (by kernel_rfl) (R_load (p := ad7.add k.toNat) (by kernel_rfl) (by kernel_rfl) (by kernel_rfl) (HS.old0 (hra.at_ (ci_rd (i := k) (by omega) (by omega))))) ?_
    refine ql (.int .i64 (rdI l k)) (by kernel_rfl) (by kernel_rfl) ?_
    refine wpList_nil ?_
    refine x_then ?_
    refine wp_region_lit ?_
    refine ql (.pointer (some ⟨g1, 0, none⟩)) (by kernel_rfl) (by kernel_rfl) ?_
    refine ql (.int .i64 (rdI l k)) (by kernel_rfl) (by kernel_rfl) ?_
    refine qc (f := 32) (args := #[.pointer (some ⟨g1, 0, none⟩), .int .i64 (rdI l k)]) (by kernel_rfl) (R_call #[.pointer (some ⟨g1, 0, none⟩), .int .i64 (rdI l k)] Try.func32 (by kernel_rfl) (by kernel_rfl) (by kernel_rfl)) ?_
    refine (sadd g1 c A L (rdI l k) _ _ (St.focus (F := [blk g1 [.slice A L.length c] 77, row A L.length c (ci .i32 L) 21 1]) HS) (ofP_s31 hP) (by omega)).mono ?_
    rintro e W11 ⟨A8, c9, rfl, H_⟩
    refine ⟨_, rfl, ?_⟩
    replace HS : St W (owns []) W11 [blk g1 [.slice A8 ((addL 2147483648 L (rdI l k)).length) c9] 77, row A8 ((addL 2147483648 L (rdI l k)).length) c9 (ci .i32 (addL 2147483648 L (rdI l k))) 21 1] := HS.join (F := [blk g1 [.slice A L.length c] 77, row A L.length c (ci .i32 L) 21 1]) (G := [blk g1 [.slice A8 ((addL 2147483648 L (rdI l k)).length) c9] 77, row A8 ((addL 2147483648 L (rdI l k)).length) c9 (ci .i32 (addL 2147483648 L (rdI l k))) 21 1]) H_
    clear H_
    refine wpList_nil ?_
    refine x_inb ?_
    refine x_then ?_
    refine wp_region_lit ?_
    refine ql (.int .i64 (k + 1)) (by kernel_rfl) (R_int (by kernel_rfl) (w64 (by omega))) ?_
    refine ql (.int .i64 (k + 1)) (by kernel_rfl) (by kernel_rfl) ?_
    refine wpList_nil ?_
    refine x_then ?_
    exact ⟨l.length - (k + 1).toNat, by omega, (fun k_ : Nat => List.getD [.slice (some ad7) l.length cl, undef, .pointer none, .pointer (some ⟨g1, 0, none⟩), undef, .int .i64 (rdI l k), .agg #[.slice none 0 0], .pointer (some ⟨g1, 0, none⟩), .slice (some ad7) l.length cl, .int .i64 (l.length : Int), .int .i64 (k + 1), .bool true, .pointer (some (ad7.add k.toNat)), .int .i64 (rdI l k), .pointer (some ⟨g1, 0, none⟩), .int .i64 (rdI l k), .bool (addB 2147483648 L (rdI l k)), .int .i64 (k + 1), undef] k_ undef), k + 1, (addL 2147483648 L (rdI l k)), A8, c9, congrArg Fr (by kernel_rfl), rfl, by omega, by omega, ofP_step hP k0 (by omega), HS⟩
  · skip
    refine ql (.bool false) (by kernel_rfl) (R_nbool (p := k < (l.length : Int)) (by kernel_rfl) (hc6)) ?_
    refine wpList_nil ?_
    refine x_then ?_
    refine wp_seq ?_
    refine wp_cond_false (by kernel_rfl) ?_
    refine wp_exit ?_
    refine x_thenE ?_
    refine x_thenE ?_
    refine x_hit ?_
    refine x_then ?_
    refine wp_seq ?_
    refine wp_region_lit ?_
    refine ql (.pointer (some ⟨g1, 0, none⟩)) (by kernel_rfl) (by kernel_rfl) ?_
    refine ql (.pointer (some ⟨g1, 0, none⟩)) (by kernel_rfl) (by kernel_rfl) ?_
    refine wpList_nil ?_
    refine x_then ?_
    refine wp_ret ?_
    refine ret_ (.pointer (some ⟨g1, 0, none⟩)) (by kernel_rfl) ?_
    have hq := ofP_end hP (by omega)
    rw [← hq]
    exact ⟨_, _, _, rfl, HS⟩

set_option maxRecDepth 100000 in
set_option maxHeartbeats 1000000 in
theorem smeet (g c : Nat) (A : Option Addr) (L : List Int) (h c2 : Nat) (B : Option Addr) (M : List Int) (W : World) (hz0 : W.cell? ⟨g, 0, none⟩ = some (.slice A L.length c)) (hr : Rd W A (ci .i32 L)) (hs : S31 L) (hl : L.length ≤ 100000) (hy0 : W.cell? ⟨h, 0, none⟩ = some (.slice B M.length c2)) (hr2 : Rd W B (ci .i32 M)) (hs2 : S31 M) (hl2 : M.length ≤ 100000) : Calls Try.prog 16 #[.pointer (some ⟨g, 0, none⟩), .pointer (some ⟨h, 0, none⟩)] W fun e W' => ∃ A' c', e = .returned (.slice A' (mt L M).length c') ∧ St W (owns []) W' [row A' (mt L M).length c' (ci .i64 (mt L M)) 3 1] := by
  have HS : St W (owns []) W [] := St.start W _
  refine calls_enterM [.pointer (some ⟨g, 0, none⟩), .pointer (some ⟨h, 0, none⟩), undef, undef, undef, undef, undef, undef, undef, undef, undef, undef, undef, undef, undef, undef, undef, undef] Try.func16 rfl (by kernel_rfl) ?_
  refine wp_seq ?_
  refine wp_region_lit ?_
  refine kb HS [.pointer (some ⟨h, 0, none⟩)] 24 (fun g => .pointer (some ⟨g, 0, none⟩)) (by kernel_rfl) (by kernel_rfl) ?_
  intro g1 W2 H_
  replace HS : St W (owns []) W2 [blk g1 [.pointer (some ⟨h, 0, none⟩)] 24] := H_
  clear H_
  refine ql (.slice none 0 0) (by kernel_rfl) (by kernel_rfl) ?_
  refine wpList_nil ?_
  refine x_then ?_
  refine wp_seq ?_
  refine wp_region_lit ?_
  refine kb HS [.slice none 0 0] 22 (fun g => .pointer (some ⟨g, 0, none⟩)) (by kernel_rfl) (by kernel_rfl) ?_
  intro g3 W4 H_
  replace HS : St W (owns []) W4 [blk g3 [.slice none 0 0] 22, blk g1 [.pointer (some ⟨h, 0, none⟩)] 24] := H_
  clear H_
  refine wpList_nil ?_
  refine x_then ?_
  refine wp_seq ?_
  refine wp_seq ?_
  refine wp_region_lit ?_
  refine ql (.pointer (some ⟨g, 0, none⟩)) (by kernel_rfl) (by kernel_rfl) ?_
  refine qc (f := 34) (args := #[.pointer (some ⟨g, 0, none⟩)]) (by kernel_rfl) (R_call #[.pointer (some ⟨g, 0, none⟩)] Try.func34 (by kernel_rfl) (by kernel_rfl) (by kernel_rfl)) ?_
  refine (sall g _).mono ?_
  rintro e W6 ⟨b5, rfl, H_⟩
  refine ⟨_, rfl, ?_⟩
  replace HS : St W (owns []) W6 [blk b5 [.pointer (some ⟨g, 0, none⟩)] 24, blk g3 [.slice none 0 0] 22, blk g1 [.pointer (some ⟨h, 0, none⟩)] 24] := HS.join (F := []) (G := [blk b5 [.pointer (some ⟨g, 0, none⟩)] 24]) H_
  clear H_
  refine wpList_nil ?_
  refine x_then ?_
  refine wp_block ?_
  replace HS : St W (owns []) W6 [row none 0 0 (ci .i64 ([])) 3 1, blk b5 [.pointer (some ⟨g, 0, none⟩)] 24, blk g3 [.slice none 0 0] 22, blk g1 [.pointer (some ⟨h, 0, none⟩)] 24] := (HS.nilRow 3 1).cast_ (by kernel_rfl)
  replace HS : St W (owns []) W6 [blk g3 [.slice none 0 0] 22, row none 0 0 (ci .i64 ([])) 3 1, blk b5 [.pointer (some ⟨g, 0, none⟩)] 24, blk g1 [.pointer (some ⟨h, 0, none⟩)] 24] := HS.perm (perm_ [2, 0, 1, 3] (by kernel_rfl) rfl)
  have HDT : SpT b5 g c A L _ := ⟨HS.cell (i := 2) (j := 0) rfl rfl, HS.old0 hz0, hr.old0 HS⟩
  have HSb := HS
  refine rangeF (gf := 67) (lb := #[.pointer (some ⟨b5, 0, none⟩)]) (m := 0) (by kernel_rfl) (enters_of Try.func67 (by kernel_rfl) rfl) (sall_stops b5 g c A L _ HDT.hb HDT.h0 HDT.hr hs hl 0) (fun h_ k_ => fun x_ => k_ (h_ x_)) (fun X l_ o_ o2_ _ h1_ h2_ _ => fun x_ => x_.put h1_ h2_)
    (fun pre w' => ∃ (A6 : Option Addr) (c6 : Nat), St W (owns []) w' [blk g3 [.slice A6 ((mt pre M).length) c6] 22, row A6 ((mt pre M).length) c6 (ci .i64 (mt pre M)) 3 1, blk b5 [.pointer (some ⟨g, 0, none⟩)] 24, blk g1 [.pointer (some ⟨h, 0, none⟩)] 24])
    (fun c pre w' => False)
    (fun s_ A_ B_ r_ h_ hg_ hr_ => by obtain ⟨A6, c6, HS⟩ := h_; exact ⟨A6, c6, HS.grown (cel_cons blk_cel (cel_cons row_cel (cel_cons blk_cel (cel_cons blk_cel cel_nil)))) HSb.le hg_ hr_⟩)
    (fun _ _ _ _ _ h_ _ _ => h_)
    (by exact ⟨none, 0, HS⟩)
    (fun x => [.pointer (some ⟨g, 0, none⟩), .pointer (some ⟨h, 0, none⟩), undef, .pointer (some ⟨g1, 0, none⟩), .slice none 0 0, .pointer (some ⟨g3, 0, none⟩), .int .i64 x, .pointer (some ⟨g, 0, none⟩), .func (.func 67) #[] #[.pointer (some ⟨b5, 0, none⟩)], .int .i64 x, undef, undef, undef, undef, undef, undef, undef, undef]) ?_ ?_ ?_ ?_
  · intro l x W7 K_ hK_
    refine wp_region_litR (by kernel_rfl) (fun ⟨_, _, h_⟩ => (h_ : False)) ?_
    refine ql (.int .i64 x) (by kernel_rfl) (by kernel_rfl) ?_
    refine wpList_nil ?_
    refine x_then ?_
    exact kk_ (congrArg Fr (by kernel_rfl)) hK_
  · intro l pre x W7 hI_ hlt
    obtain ⟨A6, c6, HS⟩ := hI_
    have HO := HS
    replace HS := HO.root
    have hml := mt_len pre M
    refine wpIn_block ?_
    refine wpIn_seq ?_
    refine wp_region_litR (by kernel_rfl) (fun ⟨_, _, h_⟩ => (h_ : False)) ?_
    refine ql (.pointer (some ⟨h, 0, none⟩)) (by kernel_rfl) (R_load (p := ⟨g1, 0, none⟩) (by kernel_rfl) (by kernel_rfl) (by kernel_rfl) (HS.cell (i := 3) (j := 0) rfl rfl)) ?_
    refine ql (.int .i64 x) (by kernel_rfl) (by kernel_rfl) ?_
    refine qc (f := 15) (args := #[.pointer (some ⟨h, 0, none⟩), .int .i64 x]) (by kernel_rfl) (R_call #[.pointer (some ⟨h, 0, none⟩), .int .i64 x] Try.func15 (by kernel_rfl) (by kernel_rfl) (by kernel_rfl)) ?_
    by_cases hv : x ∈ M
    · skip
      have hdx : decide (x ∈ M) = true := decide_eq_true hv
      refine (shas h c2 B M x _ (HO.old0 hy0) (hr2.old0 HO) hs2 hl2).mono ?_
      rintro e W8 ⟨rfl, H_⟩
      rw [hdx]
      refine ⟨_, rfl, ?_⟩
      replace HS : St W7 (owns [blk g3 [.slice A6 ((mt pre M).length) c6] 22, row A6 ((mt pre M).length) c6 (ci .i64 (mt pre M)) 3 1, blk b5 [.pointer (some ⟨g, 0, none⟩)] 24, blk g1 [.pointer (some ⟨h, 0, none⟩)] 24]) W8 [blk g3 [.slice A6 ((mt pre M).length) c6] 22, row A6 ((mt pre M).length) c6 (ci .i64 (mt pre M)) 3 1, blk b5 [.pointer (some ⟨g, 0, none⟩)] 24, blk g1 [.pointer (some ⟨h, 0, none⟩)] 24] := HS.join (F := []) (G := []) H_
      clear H_
      refine wpList_nil ?_
      refine x_then ?_
      refine wpIn_cond_true (by kernel_rfl) ?_
      refine wp_region_litR (by kernel_rfl) (fun ⟨_, _, h_⟩ => (h_ : False)) ?_
      refine ql (.slice A6 ((mt pre M).length) c6) (by kernel_rfl) (R_load (p := ⟨g3, 0, none⟩) (by kernel_rfl) (by kernel_rfl) (by kernel_rfl) (HS.cell (i := 0) (j := 0) rfl rfl)) ?_
      refine ql (.int .i64 x) (by kernel_rfl) (by kernel_rfl) ?_
      refine kl HS 1 [.int .i64 x] 3 1 (by kernel_rfl) (by kernel_rfl) rfl (by decide) ?_
      intro g9 W10 H_
      replace HS : St W7 (owns [blk g3 [.slice A6 ((mt pre M).length) c6] 22, row A6 ((mt pre M).length) c6 (ci .i64 (mt pre M)) 3 1, blk b5 [.pointer (some ⟨g, 0, none⟩)] 24, blk g1 [.pointer (some ⟨h, 0, none⟩)] 24]) W10 [row (some ⟨g9, 0, none⟩) 1 1 (ci .i64 ([x])) 3 1, blk g3 [.slice A6 ((mt pre M).length) c6] 22, row A6 ((mt pre M).length) c6 (ci .i64 (mt pre M)) 3 1, blk b5 [.pointer (some ⟨g, 0, none⟩)] 24, blk g1 [.pointer (some ⟨h, 0, none⟩)] 24] := H_.cast_ (by kernel_rfl)
      clear H_
      obtain ⟨xs14, xs14_⟩ : ∃ z_ : List Int, z_ = (mt pre M) ++ ([x]) := ⟨_, rfl⟩
      have xs14l : xs14.length = ((mt pre M).length) + 1 := by rw [xs14_, List.length_append] <;> (try simp only [List.length_cons, List.length_nil]) <;> omega
      refine ka1 HS 2 rfl (Src.of_row HS (i := 0) rfl ci_one) [.int .i64 0] 8 xs14.length (ci .i64 xs14) (by omega) (by rw [xs14_, ci_app]) (by kernel_rfl) (by kernel_rfl) (by kernel_rfl) Try.underlying22 (by kernel_rfl) (by kernel_rfl) (by kernel_rfl) (by kernel_rfl) (by decide) (by omega) (by omega) ?_
      intro A11 c12 W13 H_
      replace HS : St W7 (owns [blk g3 [.slice A6 ((mt pre M).length) c6] 22, row A6 ((mt pre M).length) c6 (ci .i64 (mt pre M)) 3 1, blk b5 [.pointer (some ⟨g, 0, none⟩)] 24, blk g1 [.pointer (some ⟨h, 0, none⟩)] 24]) W13 [row (some ⟨g9, 0, none⟩) 1 1 (ci .i64 ([x])) 3 1, blk g3 [.slice A6 ((mt pre M).length) c6] 22, row A11 xs14.length c12 (ci .i64 xs14) 3 1, blk b5 [.pointer (some ⟨g, 0, none⟩)] 24, blk g1 [.pointer (some ⟨h, 0, none⟩)] 24] := H_
      clear H_
      refine ks (v := .slice A11 xs14.length c12) HS 1 rfl (0) [.slice A11 xs14.length c12] (by kernel_rfl) (by kernel_rfl) (by kernel_rfl) (by kernel_rfl) (by kernel_rfl) (one_ (by kernel_rfl)) (Nat.le_of_ble_eq_true rfl) rfl ?_
      intro W15 H_
      replace HS : St W7 (owns [blk g3 [.slice A6 ((mt pre M).length) c6] 22, row A6 ((mt pre M).length) c6 (ci .i64 (mt pre M)) 3 1, blk b5 [.pointer (some ⟨g, 0, none⟩)] 24, blk g1 [.pointer (some ⟨h, 0, none⟩)] 24]) W15 [row (some ⟨g9, 0, none⟩) 1 1 (ci .i64 ([x])) 3 1, blk g3 [.slice A11 xs14.length c12] 22, row A11 xs14.length c12 (ci .i64 xs14) 3 1, blk b5 [.pointer (some ⟨g, 0, none⟩)] 24, blk g1 [.pointer (some ⟨h, 0, none⟩)] 24] := H_
      clear H_
      refine wpList_nil ?_
      refine x_inb ?_
      replace HS := HS.drop1
      have hq : xs14 = mt (pre ++ [x]) M := by rw [xs14_]; exact (mtT hv).symm
      rw [hq] at HS
      have HF := HO.unroot HS
      exact og_n (HS.keepsFrom HO (cel_cons blk_cel (cel_cons row_cel (cel_cons blk_cel (cel_cons blk_cel cel_nil)))) _) (fun _ => ⟨HF.cell (i := 2) (j := 0) rfl rfl, HF.old0 hz0, hr.old0 HF⟩) ⟨A11, c12, HF⟩
    · skip
      have hdx : decide (x ∈ M) = false := decide_eq_false hv
      refine (shas h c2 B M x _ (HO.old0 hy0) (hr2.old0 HO) hs2 hl2).mono ?_
      rintro e W16 ⟨rfl, H_⟩
      rw [hdx]
      refine ⟨_, rfl, ?_⟩
      replace HS : St W7 (owns [blk g3 [.slice A6 ((mt pre M).length) c6] 22, row A6 ((mt pre M).length) c6 (ci .i64 (mt pre M)) 3 1, blk b5 [.pointer (some ⟨g, 0, none⟩)] 24, blk g1 [.pointer (some ⟨h, 0, none⟩)] 24]) W16 [blk g3 [.slice A6 ((mt pre M).length) c6] 22, row A6 ((mt pre M).length) c6 (ci .i64 (mt pre M)) 3 1, blk b5 [.pointer (some ⟨g, 0, none⟩)] 24, blk g1 [.pointer (some ⟨h, 0, none⟩)] 24] := HS.join (F := []) (G := []) H_
      clear H_
      refine wpList_nil ?_
      refine x_then ?_
      refine wpIn_cond_false (by kernel_rfl) ?_
      refine wpIn_skip ?_
      refine x_inb ?_
      replace HS : St W7 (owns [blk g3 [.slice A6 ((mt pre M).length) c6] 22, row A6 ((mt pre M).length) c6 (ci .i64 (mt pre M)) 3 1, blk b5 [.pointer (some ⟨g, 0, none⟩)] 24, blk g1 [.pointer (some ⟨h, 0, none⟩)] 24]) W16 [blk g3 [.slice A6 ((mt (pre ++ [x]) M).length) c6] 22, row A6 ((mt (pre ++ [x]) M).length) c6 (ci .i64 (mt (pre ++ [x]) M)) 3 1, blk b5 [.pointer (some ⟨g, 0, none⟩)] 24, blk g1 [.pointer (some ⟨h, 0, none⟩)] 24] := by rw [mtF hv]; exact HS
      have HF := HO.unroot HS
      exact og_n (HS.keepsFrom HO (cel_cons blk_cel (cel_cons row_cel (cel_cons blk_cel (cel_cons blk_cel cel_nil)))) _) (fun _ => ⟨HF.cell (i := 2) (j := 0) rfl rfl, HF.old0 hz0, hr.old0 HF⟩) ⟨A6, c6, HF⟩
  · intro D xs W7 hD hS hI_ hdf
    have hS : L = xs := hS.symm
    subst hS
    obtain ⟨A6, c6, HS⟩ := hI_
    replace HS := HS.addD (cel_cons blk_cel (cel_cons row_cel (cel_cons blk_cel (cel_cons blk_cel cel_nil)))) (Nat.le_trans HSb.le hD) hdf
    refine x_inb ?_
    refine x_then ?_
    refine wp_seq ?_
    refine wp_region_lit ?_
    refine ql (.slice A6 ((mt L M).length) c6) (by kernel_rfl) (R_load (p := ⟨g3, 0, none⟩) (by kernel_rfl) (by kernel_rfl) (by kernel_rfl) (HS.cell (i := 1) (j := 0) rfl rfl)) ?_
    refine ql (.slice A6 ((mt L M).length) c6) (by kernel_rfl) (by kernel_rfl) ?_
    refine wpList_nil ?_
    refine x_then ?_
    refine wp_ret ?_
    refine retD_ HS ?_
    clear HS
    intro W17 HS
    refine ⟨.slice A6 ((mt L M).length) c6, by kernel_rfl, ?_⟩
    replace HS : St W (owns []) W17 [row A6 ((mt L M).length) c6 (ci .i64 (mt L M)) 3 1] := St.tail (F := [blk g3 [.slice A6 ((mt L M).length) c6] 22, blk b5 [.pointer (some ⟨g, 0, none⟩)] 24, blk g1 [.pointer (some ⟨h, 0, none⟩)] 24]) (HS.perm (perm_ [0, 2, 3, 1] (by kernel_rfl) rfl))
    exact ⟨_, _, rfl, HS⟩
  · intro D c pre W7 hD hSp hIx_ hdf
    exact hIx_.elim

set_option maxRecDepth 100000 in
set_option maxHeartbeats 1000000 in
theorem r4of (Al : Option Addr) (cl : Nat) (l : List Int) (W : World) (hra : Rd W Al (ci .i64 l)) (hl : l.length ≤ 1000) : Calls Try.prog 24 #[.slice Al l.length cl] W fun e W' => ∃ A' c', e = .returned (.slice A' (ofL l).length c') ∧ St W (owns []) W' [row A' ((ofL l).length) c' (ci .i64 (ofL l)) 3 1] := by
  have HS : St W (owns []) W [] := St.start W _
  refine calls_enter [.slice Al l.length cl, undef, undef, undef, undef, undef, undef, undef, undef, undef, undef, undef, undef, undef, undef, undef, undef, undef, undef, undef, undef, undef, undef, undef, undef, undef] Try.func24 rfl (by kernel_rfl) ?_
  refine wp_seq ?_
  refine wp_region_lit ?_
  refine ql (.slice none 0 0) (by kernel_rfl) (by kernel_rfl) ?_
  refine wpList_nil ?_
  refine x_then ?_
  refine wp_seq ?_
  refine wp_region_lit ?_
  refine ql (.agg #[.int .i64 2147483648, .slice none 0 0]) (by kernel_rfl) (by kernel_rfl) ?_
  refine kb HS [.int .i64 0, .slice none 0 0] 43 (fun g => .pointer (some ⟨g, 0, none⟩)) (by kernel_rfl) (by kernel_rfl) ?_
  intro g1 W2 H_
  replace HS : St W (owns []) W2 [blk g1 [.int .i64 0, .slice none 0 0] 43] := H_
  clear H_
  refine ks (v := .agg #[.int .i64 2147483648, .slice none 0 0]) HS 0 rfl (0) [.int .i64 2147483648, .slice none 0 0] (by kernel_rfl) (by kernel_rfl) (by kernel_rfl) (by kernel_rfl) (by kernel_rfl) (one_ (by kernel_rfl)) (Nat.le_of_ble_eq_true rfl) rfl ?_
  intro W3 H_
  replace HS : St W (owns []) W3 [blk g1 [.int .i64 2147483648, .slice none 0 0] 43] := H_
  clear H_
  refine wpList_nil ?_
  refine x_then ?_
  refine wp_seq ?_
  refine wp_seq ?_
  refine wp_region_lit ?_
  refine ql (.int .i64 0) (by kernel_rfl) (by kernel_rfl) ?_
  refine wpList_nil ?_
  refine x_then ?_
  refine wp_block ?_
  replace HS : St W (owns []) W3 [row none 0 0 (ci .i64 ([])) 3 1, blk g1 [.int .i64 2147483648, .slice none 0 0] 43] := (HS.nilRow 3 1).cast_ (by kernel_rfl)
  replace HS : St W (owns []) W3 [blk g1 [.int .i64 2147483648, .slice none 0 0] 43, row none 0 0 (ci .i64 ([])) 3 1] := HS.perm (perm_ [1, 0] (by kernel_rfl) rfl)
  refine wp_loop_ghost (fun kq a' w' => ∃ (J4 : Nat → Value) (k : Int) (L : List Int) (A : Option Addr) (c : Nat) , a' = Fr [.slice Al l.length cl, undef, .slice none 0 0, .pointer (some ⟨g1, 0, none⟩), .int .i64 k, (J4 5), (J4 6), .agg #[.int .i64 2147483648, .slice none 0 0], (J4 8), (J4 9), (J4 10), (J4 11), (J4 12), (J4 13), (J4 14), (J4 15), (J4 16), (J4 17), (J4 18), (J4 19), (J4 20), (J4 21), (J4 22), (J4 23), undef, undef] ∧ kq = (l.length - (k).toNat) ∧ (0 ≤ k) ∧ (k ≤ l.length) ∧ (OfP l L k) ∧ St W (owns []) w' [blk g1 [.int .i64 2147483648, .slice A L.length c] 43, row A L.length c (ci .i64 L) 3 1]) (l.length - ((0 : Int)).toNat) ⟨(fun k_ : Nat => List.getD [.slice Al l.length cl, undef, .slice none 0 0, .pointer (some ⟨g1, 0, none⟩), .int .i64 0, undef, undef, .agg #[.int .i64 2147483648, .slice none 0 0], undef, undef, undef, undef, undef, undef, undef, undef, undef, undef, undef, undef, undef, undef, undef, undef, undef, undef] k_ undef), (0 : Int), [], none, 0, congrArg Fr (by kernel_rfl), rfl, by omega, by omega, ofP_start l, HS⟩ ?_
  clear HS
  intro kq5 a' W6 hrel
  obtain ⟨J4, k, L, A, c, rfl, hk, k0, k1, hP, HS⟩ := hrel
  have hol := ofP_len hP
  refine wp_seq ?_
  refine wp_seq ?_
  refine wp_region_lit ?_
  refine ql (.int .i64 k) (by kernel_rfl) (by kernel_rfl) ?_
  refine ql (.slice Al l.length cl) (by kernel_rfl) (by kernel_rfl) ?_
  refine ql (.int .i64 (l.length : Int)) (by kernel_rfl) (by kernel_rfl) ?_
  by_cases hc7 : k < (l.length : Int)
  · skip
    refine ql (.bool true) (by kernel_rfl) (R_bool (p := k < (l.length : Int)) (by kernel_rfl) (hc7)) ?_
    refine wpList_nil ?_
    refine x_then ?_
    refine wp_cond_true (by kernel_rfl) ?_
    refine wp_skip ?_
    refine x_then ?_
    refine wp_seq ?_
    refine wp_block ?_
    refine wp_seq ?_
    replace HS : St W (owns []) W6 [row A L.length c (ci .i64 L) 3 1, blk g1 [.int .i64 2147483648, .slice A L.length c] 43] := HS.perm (perm_ [1, 0] (by kernel_rfl) rfl)
    refine t_start HS (fun k_ => (row A L.length c (ci .i64 L) 3 1).own k_) 12 (by kernel_rfl) rfl ?_
    intro W8 H_ HD_
    clear HD_
    replace HS : St W (owns []) W8 [row A L.length c (ci .i64 L) 3 1, blk g1 [.int .i64 2147483648, .slice A L.length c] 43] := H_
    clear H_
    have HV := HS
    have HK := Kpt.refl (fun k_ => (row A L.length c (ci .i64 L) 3 1).own k_) W8
    refine t_q (n := 11) 0 (.agg #[.int .i64 2147483648, .slice A L.length c]) rfl (by kernel_rfl) (by kernel_rfl) (fun _ _ _ h => h) (fun w' hk => (R_loadN (p := ⟨g1, 0, none⟩) [.int .i64 2147483648, .slice A L.length c] (by kernel_rfl) (by kernel_rfl) (by kernel_rfl) (by kernel_rfl) (two_at (hk.cellN (HV.sepB (a := 1) (b := 0) (by decide) rfl rfl) (HV.cell (i := 1) (j := 0) rfl rfl)) (hk.cellN (HV.sepB (a := 1) (b := 0) (by decide) rfl rfl) (HV.cell (i := 1) (j := 1) rfl rfl))))) HK ?_
    refine t_q (n := 10) 1 (.slice Al l.length cl) rfl (by kernel_rfl) (by kernel_rfl) (fun _ _ _ h => h) (fun w' hk => (by kernel_rfl)) HK ?_
    refine t_q (n := 9) 2 (.int .i64 k) rfl (by kernel_rfl) (by kernel_rfl) (fun _ _ _ h => h) (fun w' hk => (by kernel_rfl)) HK ?_
    obtain ⟨ad9, rfl⟩ := Rd.isSome_ hra (by rw [ci_len]; omega)
    refine t_q (n := 8) 3 (.pointer (some (ad9.add k.toNat))) rfl (by kernel_rfl) (by kernel_rfl) (fun _ _ _ h => h) (fun w' hk => (R_indexA1 (k := .i64) (p := ad9) (n := l.length) (c := cl) (i := k) (by kernel_rfl) (by kernel_rfl) Try.underlying22 (by kernel_rfl) (by omega) (by omega))) HK ?_
    refine t_q (n := 7) 4 (.int .i64 (rdI l k)) rfl (by kernel_rfl) (by kernel_rfl) (fun _ _ _ h => h) (fun w' hk => (R_load (p := ad9.add k.toNat) (by kernel_rfl) (by kernel_rfl) (by kernel_rfl) (hk.cellN (HV.oldSep (i := 0) rfl (hra.at_ (ci_rd (i := k) (by omega) (by omega)))) (HV.old0 (hra.at_ (ci_rd (i := k) (by omega) (by omega))))))) HK ?_
    refine t_pick2 (n := 6) 5 9 (by kernel_rfl) ?_ ?_
    · skip
      refine t_c2 (n := 6) 5 (f := 60) (args := #[.agg #[.int .i64 2147483648, .slice A L.length c], .int .i64 (rdI l k)]) rfl (by kernel_rfl) (R_call #[.agg #[.int .i64 2147483648, .slice A L.length c], .int .i64 (rdI l k)] Try.func60 (by kernel_rfl) (by kernel_rfl) (by kernel_rfl)) ?_
      refine (r3add A c L 2147483648 (rdI l k) _ _ (St.focus (F := [row A L.length c (ci .i64 L) 3 1]) HS) (by omega)).mono ?_
      rintro e W12 ⟨A10, c11, rfl, H_⟩
      have hkf_ : ∀ k_, owns [row A L.length c (ci .i64 L) 3 1] k_ → (row A L.length c (ci .i64 L) 3 1).own k_ := by
        intro k_ h_; obtain ⟨e_, he_, ho_⟩ := h_; simp only [List.mem_cons, List.not_mem_nil, or_false] at he_; rcases he_ with rfl <;> first | exact ho_
      refine ⟨_, rfl, HK.trans H_.kept (fun _ h_ => .inl (hkf_ _ h_)), ?_⟩
      replace HK := HK.trans H_.kept (fun _ h_ => .inl (hkf_ _ h_))
      replace HS : St W (owns []) W12 [row A10 ((addL 2147483648 L (rdI l k)).length) c11 (ci .i64 (addL 2147483648 L (rdI l k))) 3 1, blk g1 [.int .i64 2147483648, .slice A L.length c] 43] := HS.join (F := [row A L.length c (ci .i64 L) 3 1]) (G := [row A10 ((addL 2147483648 L (rdI l k)).length) c11 (ci .i64 (addL 2147483648 L (rdI l k))) 3 1]) H_
      clear H_
      refine t_q (n := 5) 6 (.tuple #[.agg #[.int .i64 2147483648, .slice A10 ((addL 2147483648 L (rdI l k)).length) c11], .bool (addB 2147483648 L (rdI l k))]) rfl (by kernel_rfl) (by kernel_rfl) (fun _ _ _ h => h) (fun w' hk => (by kernel_rfl)) HK ?_
      refine t_q (n := 4) 7 (.agg #[.int .i64 2147483648, .slice A10 ((addL 2147483648 L (rdI l k)).length) c11]) rfl (by kernel_rfl) (by kernel_rfl) (fun _ _ _ h => h) (fun w' hk => (by kernel_rfl)) HK ?_
      refine t_q (n := 3) 8 (.bool (addB 2147483648 L (rdI l k))) rfl (by kernel_rfl) (by kernel_rfl) (fun _ _ _ h => h) (fun w' hk => (by kernel_rfl)) HK ?_
      obtain ⟨g13, W14, hg_, hw_, H_, hk_⟩ := ex_blk HS [.int .i64 0, .slice none 0 0] 43
      have hv_g13 := Nat.le_trans HK.size (Nat.le_of_eq (Eq.symm hg_))
      refine t_e (n := 2) 9 (.pointer (some ⟨g13, 0, none⟩)) rfl (by kernel_rfl) (by kernel_rfl) (by subst hg_; subst hw_; kernel_rfl) (HK.tr hk_) ?_
      replace HK := HK.tr hk_
      clear hk_
      clear hg_ hw_
      replace HS : St W (owns []) W14 [blk g13 [.int .i64 0, .slice none 0 0] 43, row A10 ((addL 2147483648 L (rdI l k)).length) c11 (ci .i64 (addL 2147483648 L (rdI l k))) 3 1, blk g1 [.int .i64 2147483648, .slice A L.length c] 43] := H_
      clear H_
      obtain ⟨W15, hrun_, H_, hk_⟩ := ex_ks (P := Try.prog) (ty := 0) (ps := "ref.go:10") (af := #[{ on := 9, ground := Go.Ground.data }, { on := 7, ground := Go.Ground.data }, { on := 5, ground := Go.Ground.chain }, { on := 0, ground := Go.Ground.phase }, { on := 1, ground := Go.Ground.phase }, { on := 2, ground := Go.Ground.phase }, { on := 3, ground := Go.Ground.phase }, { on := 4, ground := Go.Ground.phase }, { on := 5, ground := Go.Ground.phase }, { on := 6, ground := Go.Ground.phase }, { on := 7, ground := Go.Ground.phase }, { on := 8, ground := (Go.Ground.textOnly Go.Departure.lateStores) }, { on := 9, ground := Go.Ground.phase }]) (gd := none) (t := 43) (x := (Go.Operand.tmp 5)) (y := (Go.Operand.tmp 21)) (v := .agg #[.int .i64 2147483648, .slice A10 ((addL 2147483648 L (rdI l k)).length) c11]) HS 0 rfl (0) [.int .i64 2147483648, .slice A10 ((addL 2147483648 L (rdI l k)).length) c11] (by kernel_rfl) (by kernel_rfl) (by kernel_rfl) (by kernel_rfl) (one_ (by kernel_rfl)) (Nat.le_of_ble_eq_true rfl)
      replace HK := HK.trans hk_ (fun _ h_ => .inr (Nat.le_trans hv_g13 (Nat.le_of_eq (Eq.symm h_))))
      refine t_s (n := 1) 10 rfl (by kernel_rfl) (by kernel_rfl) hrun_ HK ?_
      clear hk_ hrun_
      replace HS : St W (owns []) W15 [blk g13 [.int .i64 2147483648, .slice A10 ((addL 2147483648 L (rdI l k)).length) c11] 43, row A10 ((addL 2147483648 L (rdI l k)).length) c11 (ci .i64 (addL 2147483648 L (rdI l k))) 3 1, blk g1 [.int .i64 2147483648, .slice A L.length c] 43] := H_
      clear H_
      refine t_q (n := 0) 11 (.bool (addB 2147483648 L (rdI l k))) rfl (by kernel_rfl) (by kernel_rfl) (fun _ _ _ h => h) (fun w' hk => (by kernel_rfl)) HK ?_
      refine t_done (by kernel_rfl) ?_
      clear HV HK
      refine x_then ?_
      refine wp_region_lit ?_
      refine ql (.agg #[.int .i64 2147483648, .slice A10 ((addL 2147483648 L (rdI l k)).length) c11]) (by kernel_rfl) (R_loadN (p := ⟨g13, 0, none⟩) [.int .i64 2147483648, .slice A10 ((addL 2147483648 L (rdI l k)).length) c11] (by kernel_rfl) (by kernel_rfl) (by kernel_rfl) (by kernel_rfl) (two_at (HS.cell (i := 0) (j := 0) rfl rfl) (HS.cell (i := 0) (j := 1) rfl rfl))) ?_
      refine ks (v := .agg #[.int .i64 2147483648, .slice A10 ((addL 2147483648 L (rdI l k)).length) c11]) HS 2 rfl (0) [.int .i64 2147483648, .slice A10 ((addL 2147483648 L (rdI l k)).length) c11] (by kernel_rfl) (by kernel_rfl) (by kernel_rfl) (by kernel_rfl) (by kernel_rfl) (one_ (by kernel_rfl)) (Nat.le_of_ble_eq_true rfl) rfl ?_
      intro W16 H_
      replace HS : St W (owns []) W16 [blk g13 [.int .i64 2147483648, .slice A10 ((addL 2147483648 L (rdI l k)).length) c11] 43, row A10 ((addL 2147483648 L (rdI l k)).length) c11 (ci .i64 (addL 2147483648 L (rdI l k))) 3 1, blk g1 [.int .i64 2147483648, .slice A10 ((addL 2147483648 L (rdI l k)).length) c11] 43] := H_
      clear H_
      refine wpList_nil ?_
      refine x_inb ?_
      refine x_then ?_
      refine wp_region_lit ?_
      refine ql (.int .i64 k) (by kernel_rfl) (by kernel_rfl) ?_
      refine ql (.int .i64 (k + 1)) (by kernel_rfl) (R_int (by kernel_rfl) (w64 (by omega))) ?_
      refine ql (.int .i64 (k + 1)) (by kernel_rfl) (by kernel_rfl) ?_
      refine wpList_nil ?_
      replace HS : St W (owns []) W16 [blk g1 [.int .i64 2147483648, .slice A10 ((addL 2147483648 L (rdI l k)).length) c11] 43, row A10 ((addL 2147483648 L (rdI l k)).length) c11 (ci .i64 (addL 2147483648 L (rdI l k))) 3 1] := St.tail (F := [blk g13 [.int .i64 2147483648, .slice A10 ((addL 2147483648 L (rdI l k)).length) c11] 43]) (HS.perm (perm_ [0, 2, 1] (by kernel_rfl) rfl))
      refine x_then ?_
      exact ⟨l.length - (k + 1).toNat, by omega, (fun k_ : Nat => List.getD [.slice (some ad9) l.length cl, undef, .slice none 0 0, .pointer (some ⟨g1, 0, none⟩), .int .i64 (k + 1), .pointer (some ⟨g13, 0, none⟩), .bool (addB 2147483648 L (rdI l k)), .agg #[.int .i64 2147483648, .slice none 0 0], .int .i64 k, .slice (some ad9) l.length cl, .int .i64 (l.length : Int), .bool true, .int .i64 k, .int .i64 (k + 1), .tuple #[.agg #[.int .i64 2147483648, .slice A10 ((addL 2147483648 L (rdI l k)).length) c11], .bool (addB 2147483648 L (rdI l k))], .agg #[.int .i64 2147483648, .slice A L.length c], .slice (some ad9) l.length cl, .int .i64 k, .pointer (some (ad9.add k.toNat)), .int .i64 (rdI l k), .tuple #[.agg #[.int .i64 2147483648, .slice A10 ((addL 2147483648 L (rdI l k)).length) c11], .bool (addB 2147483648 L (rdI l k))], .agg #[.int .i64 2147483648, .slice A10 ((addL 2147483648 L (rdI l k)).length) c11], .bool (addB 2147483648 L (rdI l k)), .agg #[.int .i64 2147483648, .slice A10 ((addL 2147483648 L (rdI l k)).length) c11], undef, undef] k_ undef), k + 1, (addL 2147483648 L (rdI l k)), A10, c11, congrArg Fr (by kernel_rfl), rfl, by omega, by omega, ofP_step hP k0 (by omega), HS⟩
    · skip
      obtain ⟨g17, W18, hg_, hw_, H_, hk_⟩ := ex_blk HS [.int .i64 0, .slice none 0 0] 43
      have hv_g17 := Nat.le_trans HK.size (Nat.le_of_eq (Eq.symm hg_))
      refine t_e2 (n := 6) 9 (.pointer (some ⟨g17, 0, none⟩)) rfl (by kernel_rfl) (by subst hg_; subst hw_; kernel_rfl) (HK.tr hk_) ?_
      replace HK := HK.tr hk_
      clear hk_
      clear hg_ hw_
      replace HS : St W (owns []) W18 [blk g17 [.int .i64 0, .slice none 0 0] 43, row A L.length c (ci .i64 L) 3 1, blk g1 [.int .i64 2147483648, .slice A L.length c] 43] := H_
      clear H_
      refine t_c (n := 5) 5 (f := 60) (args := #[.agg #[.int .i64 2147483648, .slice A L.length c], .int .i64 (rdI l k)]) rfl (by kernel_rfl) (by kernel_rfl) (R_call #[.agg #[.int .i64 2147483648, .slice A L.length c], .int .i64 (rdI l k)] Try.func60 (by kernel_rfl) (by kernel_rfl) (by kernel_rfl)) ?_
      replace HS : St W (owns []) W18 [row A L.length c (ci .i64 L) 3 1, blk g17 [.int .i64 0, .slice none 0 0] 43, blk g1 [.int .i64 2147483648, .slice A L.length c] 43] := HS.perm (perm_ [1, 0, 2] (by kernel_rfl) rfl)
      refine (r3add A c L 2147483648 (rdI l k) _ _ (St.focus (F := [row A L.length c (ci .i64 L) 3 1]) HS) (by omega)).mono ?_
      rintro e W21 ⟨A19, c20, rfl, H_⟩
      have hkf_ : ∀ k_, owns [row A L.length c (ci .i64 L) 3 1] k_ → (row A L.length c (ci .i64 L) 3 1).own k_ := by
        intro k_ h_; obtain ⟨e_, he_, ho_⟩ := h_; simp only [List.mem_cons, List.not_mem_nil, or_false] at he_; rcases he_ with rfl <;> first | exact ho_
      refine ⟨_, rfl, HK.trans H_.kept (fun _ h_ => .inl (hkf_ _ h_)), ?_⟩
      replace HK := HK.trans H_.kept (fun _ h_ => .inl (hkf_ _ h_))
      replace HS : St W (owns []) W21 [row A19 ((addL 2147483648 L (rdI l k)).length) c20 (ci .i64 (addL 2147483648 L (rdI l k))) 3 1, blk g17 [.int .i64 0, .slice none 0 0] 43, blk g1 [.int .i64 2147483648, .slice A L.length c] 43] := HS.join (F := [row A L.length c (ci .i64 L) 3 1]) (G := [row A19 ((addL 2147483648 L (rdI l k)).length) c20 (ci .i64 (addL 2147483648 L (rdI l k))) 3 1]) H_
      clear H_
      refine t_q (n := 4) 6 (.tuple #[.agg #[.int .i64 2147483648, .slice A19 ((addL 2147483648 L (rdI l k)).length) c20], .bool (addB 2147483648 L (rdI l k))]) rfl (by kernel_rfl) (by kernel_rfl) (fun _ _ _ h => h) (fun w' hk => (by kernel_rfl)) HK ?_
      refine t_q (n := 3) 7 (.agg #[.int .i64 2147483648, .slice A19 ((addL 2147483648 L (rdI l k)).length) c20]) rfl (by kernel_rfl) (by kernel_rfl) (fun _ _ _ h => h) (fun w' hk => (by kernel_rfl)) HK ?_
      refine t_q (n := 2) 8 (.bool (addB 2147483648 L (rdI l k))) rfl (by kernel_rfl) (by kernel_rfl) (fun _ _ _ h => h) (fun w' hk => (by kernel_rfl)) HK ?_
      obtain ⟨W22, hrun_, H_, hk_⟩ := ex_ks (P := Try.prog) (ty := 0) (ps := "ref.go:10") (af := #[{ on := 9, ground := Go.Ground.data }, { on := 7, ground := Go.Ground.data }, { on := 5, ground := Go.Ground.chain }, { on := 0, ground := Go.Ground.phase }, { on := 1, ground := Go.Ground.phase }, { on := 2, ground := Go.Ground.phase }, { on := 3, ground := Go.Ground.phase }, { on := 4, ground := Go.Ground.phase }, { on := 5, ground := Go.Ground.phase }, { on := 6, ground := Go.Ground.phase }, { on := 7, ground := Go.Ground.phase }, { on := 8, ground := (Go.Ground.textOnly Go.Departure.lateStores) }, { on := 9, ground := Go.Ground.phase }]) (gd := none) (t := 43) (x := (Go.Operand.tmp 5)) (y := (Go.Operand.tmp 21)) (v := .agg #[.int .i64 2147483648, .slice A19 ((addL 2147483648 L (rdI l k)).length) c20]) HS 1 rfl (0) [.int .i64 2147483648, .slice A19 ((addL 2147483648 L (rdI l k)).length) c20] (by kernel_rfl) (by kernel_rfl) (by kernel_rfl) (by kernel_rfl) (one_ (by kernel_rfl)) (Nat.le_of_ble_eq_true rfl)
      replace HK := HK.trans hk_ (fun _ h_ => .inr (Nat.le_trans hv_g17 (Nat.le_of_eq (Eq.symm h_))))
      refine t_s (n := 1) 10 rfl (by kernel_rfl) (by kernel_rfl) hrun_ HK ?_
      clear hk_ hrun_
      replace HS : St W (owns []) W22 [row A19 ((addL 2147483648 L (rdI l k)).length) c20 (ci .i64 (addL 2147483648 L (rdI l k))) 3 1, blk g17 [.int .i64 2147483648, .slice A19 ((addL 2147483648 L (rdI l k)).length) c20] 43, blk g1 [.int .i64 2147483648, .slice A L.length c] 43] := H_
      clear H_
      refine t_q (n := 0) 11 (.bool (addB 2147483648 L (rdI l k))) rfl (by kernel_rfl) (by kernel_rfl) (fun _ _ _ h => h) (fun w' hk => (by kernel_rfl)) HK ?_
      refine t_done (by kernel_rfl) ?_
      clear HV HK
      refine x_then ?_
      refine wp_region_lit ?_
      refine ql (.agg #[.int .i64 2147483648, .slice A19 ((addL 2147483648 L (rdI l k)).length) c20]) (by kernel_rfl) (R_loadN (p := ⟨g17, 0, none⟩) [.int .i64 2147483648, .slice A19 ((addL 2147483648 L (rdI l k)).length) c20] (by kernel_rfl) (by kernel_rfl) (by kernel_rfl) (by kernel_rfl) (two_at (HS.cell (i := 1) (j := 0) rfl rfl) (HS.cell (i := 1) (j := 1) rfl rfl))) ?_
      refine ks (v := .agg #[.int .i64 2147483648, .slice A19 ((addL 2147483648 L (rdI l k)).length) c20]) HS 2 rfl (0) [.int .i64 2147483648, .slice A19 ((addL 2147483648 L (rdI l k)).length) c20] (by kernel_rfl) (by kernel_rfl) (by kernel_rfl) (by kernel_rfl) (by kernel_rfl) (one_ (by kernel_rfl)) (Nat.le_of_ble_eq_true rfl) rfl ?_
      intro W23 H_
      replace HS : St W (owns []) W23 [row A19 ((addL 2147483648 L (rdI l k)).length) c20 (ci .i64 (addL 2147483648 L (rdI l k))) 3 1, blk g17 [.int .i64 2147483648, .slice A19 ((addL 2147483648 L (rdI l k)).length) c20] 43, blk g1 [.int .i64 2147483648, .slice A19 ((addL 2147483648 L (rdI l k)).length) c20] 43] := H_
      clear H_
      refine wpList_nil ?_
      refine x_inb ?_
      refine x_then ?_
      refine wp_region_lit ?_
      refine ql (.int .i64 k) (by kernel_rfl) (by kernel_rfl) ?_
      refine ql (.int .i64 (k + 1)) (by kernel_rfl) (R_int (by kernel_rfl) (w64 (by omega))) ?_
      refine ql (.int .i64 (k + 1)) (by kernel_rfl) (by kernel_rfl) ?_
      refine wpList_nil ?_
      replace HS : St W (owns []) W23 [blk g1 [.int .i64 2147483648, .slice A19 ((addL 2147483648 L (rdI l k)).length) c20] 43, row A19 ((addL 2147483648 L (rdI l k)).length) c20 (ci .i64 (addL 2147483648 L (rdI l k))) 3 1] := St.tail (F := [blk g17 [.int .i64 2147483648, .slice A19 ((addL 2147483648 L (rdI l k)).length) c20] 43]) (HS.perm (perm_ [1, 2, 0] (by kernel_rfl) rfl))
      refine x_then ?_
      exact ⟨l.length - (k + 1).toNat, by omega, (fun k_ : Nat => List.getD [.slice (some ad9) l.length cl, undef, .slice none 0 0, .pointer (some ⟨g1, 0, none⟩), .int .i64 (k + 1), .pointer (some ⟨g17, 0, none⟩), .bool (addB 2147483648 L (rdI l k)), .agg #[.int .i64 2147483648, .slice none 0 0], .int .i64 k, .slice (some ad9) l.length cl, .int .i64 (l.length : Int), .bool true, .int .i64 k, .int .i64 (k + 1), .tuple #[.agg #[.int .i64 2147483648, .slice A19 ((addL 2147483648 L (rdI l k)).length) c20], .bool (addB 2147483648 L (rdI l k))], .agg #[.int .i64 2147483648, .slice A L.length c], .slice (some ad9) l.length cl, .int .i64 k, .pointer (some (ad9.add k.toNat)), .int .i64 (rdI l k), .tuple #[.agg #[.int .i64 2147483648, .slice A19 ((addL 2147483648 L (rdI l k)).length) c20], .bool (addB 2147483648 L (rdI l k))], .agg #[.int .i64 2147483648, .slice A19 ((addL 2147483648 L (rdI l k)).length) c20], .bool (addB 2147483648 L (rdI l k)), .agg #[.int .i64 2147483648, .slice A19 ((addL 2147483648 L (rdI l k)).length) c20], undef, undef] k_ undef), k + 1, (addL 2147483648 L (rdI l k)), A19, c20, congrArg Fr (by kernel_rfl), rfl, by omega, by omega, ofP_step hP k0 (by omega), HS⟩
  · skip
    refine ql (.bool false) (by kernel_rfl) (R_nbool (p := k < (l.length : Int)) (by kernel_rfl) (hc7)) ?_
    refine wpList_nil ?_
    refine x_then ?_
    refine wp_cond_false (by kernel_rfl) ?_
    refine wp_exit ?_
    refine x_thenE ?_
    refine x_thenE ?_
    refine x_hit ?_
    refine x_then ?_
    refine wp_seq ?_
    refine wp_region_lit ?_
    refine ql (.pointer (some ⟨g1, 1, none⟩)) (by kernel_rfl) (by kernel_rfl) ?_
    refine ql (.slice A L.length c) (by kernel_rfl) (R_load (p := ⟨g1, 1, none⟩) (by kernel_rfl) (by kernel_rfl) (by kernel_rfl) (HS.cell (i := 0) (j := 1) rfl rfl)) ?_
    refine ql (.slice A L.length c) (by kernel_rfl) (by kernel_rfl) ?_
    refine wpList_nil ?_
    refine x_then ?_
    refine wp_ret ?_
    refine ret_ (.slice A L.length c) (by kernel_rfl) ?_
    replace HS := HS.drop1
    have hq := ofP_end hP (by omega)
    rw [← hq]
    exact ⟨_, _, rfl, HS⟩

set_option maxRecDepth 100000 in
set_option maxHeartbeats 1000000 in
theorem r4has (A : Option Addr) (c : Nat) (L : List Int) (i : Int) (W : World) (hr : Rd W A (ci .i64 L)) (hl : L.length ≤ 100000) : Calls Try.prog 29 #[.slice A L.length c, .int .i64 i] W fun e W' => e = .returned (.bool (decide (i ∈ L))) ∧ St W (owns []) W' [] := by
  have HS : St W (owns []) W [] := St.start W _
  refine calls_enter [.slice A L.length c, .int .i64 i, undef, undef, undef, undef, undef, undef, undef] Try.func29 rfl (by kernel_rfl) ?_
  refine wp_seq ?_
  refine wp_region_lit ?_
  refine ql (.bool false) (by kernel_rfl) (by kernel_rfl) ?_
  refine wpList_nil ?_
  refine x_then ?_
  refine wp_seq ?_
  refine wp_region_lit ?_
  refine ql (.slice A L.length c) (by kernel_rfl) (by kernel_rfl) ?_
  refine ql (.agg #[.int .i64 0, .slice A L.length c]) (by kernel_rfl) (by kernel_rfl) ?_
  refine ql (.int .i64 i) (by kernel_rfl) (by kernel_rfl) ?_
  refine qc (f := 64) (args := #[.agg #[.int .i64 0, .slice A L.length c], .int .i64 i]) (by kernel_rfl) (R_call #[.agg #[.int .i64 0, .slice A L.length c], .int .i64 i] Try.func64 (by kernel_rfl) (by kernel_rfl) (by kernel_rfl)) ?_
  refine (r3has A c L 0 i _ (hr.old0 HS) hl).mono ?_
  rintro e W1 ⟨rfl, H_⟩
  refine ⟨_, rfl, ?_⟩
  replace HS : St W (owns []) W1 [] := HS.join (F := []) (G := []) H_
  clear H_
  refine ql (.bool (decide (i ∈ L))) (by kernel_rfl) (by kernel_rfl) ?_
  refine wpList_nil ?_
  refine x_then ?_
  refine wp_ret ?_
  refine ret_ (.bool (decide (i ∈ L))) (by kernel_rfl) ?_
  exact ⟨rfl, HS⟩

set_option maxRecDepth 100000 in
set_option maxHeartbeats 1000000 in
theorem r4rank (A : Option Addr) (c : Nat) (L : List Int) (i : Int) (W : World) (hr : Rd W A (ci .i64 L)) (hl : L.length ≤ 100000) : Calls Try.prog 30 #[.slice A L.length c, .int .i64 i] W fun e W' => e = .returned (.int .i64 (rk L i)) ∧ St W (owns []) W' [] := by
  have HS : St W (owns []) W [] := St.start W _
  refine calls_enter [.slice A L.length c, .int .i64 i, undef, undef, undef, undef, undef, undef, undef, undef, undef, undef, undef, undef, undef, undef, undef, undef, undef, undef, undef, undef] Try.func30 rfl (by kernel_rfl) ?_
  refine wp_seq ?_
  refine wp_region_lit ?_
  refine ql (.int .i64 0) (by kernel_rfl) (by kernel_rfl) ?_
  refine wpList_nil ?_
  refine x_then ?_
  refine wp_seq ?_
  refine wp_region_lit ?_
  refine ql (.int .i64 0) (by kernel_rfl) (by kernel_rfl) ?_
  refine wpList_nil ?_
  refine x_then ?_
  refine wp_seq ?_
  refine wp_seq ?_
  refine wp_region_lit ?_
  refine ql (.int .i64 0) (by kernel_rfl) (by kernel_rfl) ?_
  refine wpList_nil ?_
  refine x_then ?_
  refine wp_block ?_
  refine wp_loop_ghost (fun kq a' w' => ∃ (J1 : Nat → Value) (k : Int) (n : Int) , a' = Fr [.slice A L.length c, .int .i64 i, undef, undef, .int .i64 0, .int .i64 n, .int .i64 k, (J1 7), (J1 8), (J1 9), (J1 10), (J1 11), (J1 12), (J1 13), (J1 14), (J1 15), (J1 16), (J1 17), (J1 18), (J1 19), (J1 20), undef] ∧ kq = (L.length - (k).toNat) ∧ (0 ≤ k) ∧ (k ≤ L.length) ∧ (0 ≤ n) ∧ (n ≤ k) ∧ (RkP L i k n) ∧ St W (owns []) w' []) (L.length - ((0 : Int)).toNat) ⟨(fun k_ : Nat => List.getD [.slice A L.length c, .int .i64 i, undef, undef, .int .i64 0, .int .i64 0, .int .i64 0, undef, undef, undef, undef, undef, undef, undef, undef, undef, undef, undef, undef, undef, undef, undef] k_ undef), (0 : Int), (0 : Int), congrArg Fr (by kernel_rfl), rfl, by omega, by omega, by omega, by omega, rkP_start L i, HS⟩ ?_
  clear HS
  intro kq2 a' W3 hrel
  obtain ⟨J1, k, n, rfl, hk, k0, k1, n0, n1, hP, HS⟩ := hrel
  refine wp_seq ?_
  refine wp_seq ?_
  refine wp_region_lit ?_
  refine ql (.int .i64 k) (by kernel_rfl) (by kernel_rfl) ?_
  refine ql (.slice A L.length c) (by kernel_rfl) (by kernel_rfl) ?_
  refine ql (.int .i64 (L.length : Int)) (by kernel_rfl) (by kernel_rfl) ?_
  by_cases hc4 : k < (L.length : Int)
  · skip
    refine ql (.bool true) (by kernel_rfl) (R_bool (p := k < (L.length : Int)) (by kernel_rfl) (hc4)) ?_
    refine wpList_nil ?_
    refine x_then ?_
    refine wp_cond_true (by kernel_rfl) ?_
    refine wp_skip ?_
    refine x_then ?_
    refine wp_seq ?_
    refine wp_block ?_
    refine wp_seq ?_
    refine wp_region_lit ?_
    refine ql (.slice A L.length c) (by kernel_rfl) (by kernel_rfl) ?_
    refine ql (.int .i64 k) (by kernel_rfl) (by kernel_rfl) ?_
    obtain ⟨ad5, rfl⟩ := Rd.isSome_ hr (by rw [ci_len]; omega)
    refine ql (.pointer (some (ad5.add k.toNat))) (by kernel_rfl) (R_indexA1 (k := .i64) (p := ad5) (n := L.length) (c := c) (i := k) (by kernel_rfl) (by kernel_rfl) Try.underlying22 (by kernel_rfl) (by omega) (by omega)) ?_
    refine ql (.int .i64 (rdI L k)) (by kernel_rfl) (R_load (p := ad5.add k.toNat) (by kernel_rfl) (by kernel_rfl) (by kernel_rfl) (HS.old0 (hr.at_ (ci_rd (i := k) (by omega) (by omega))))) ?_
    refine ql (.int .i64 i) (by kernel_rfl) (by kernel_rfl) ?_
    by_cases hc6 : (rdI L k) < i
    · skip
      refine ql (.bool true) (by kernel_rfl) (R_bool (p := (rdI L k) < i) (by kernel_rfl) (hc6)) ?_
      refine wpList_nil ?_
      refine x_then ?_
      refine wp_cond_true (by kernel_rfl) ?_
      refine wp_region_lit ?_
      refine ql (.int .i64 n) (by kernel_rfl) (by kernel_rfl) ?_
      refine ql (.int .i64 (n + 1)) (by kernel_rfl) (R_int (by kernel_rfl) (w64 (by omega))) ?_
      refine ql (.int .i64 (n + 1)) (by kernel_rfl) (by kernel_rfl) ?_
      refine wpList_nil ?_
      refine x_inb ?_
      refine x_then ?_
      refine wp_region_lit ?_
      refine ql (.int .i64 k) (by kernel_rfl) (by kernel_rfl) ?_
      refine ql (.int .i64 (k + 1)) (by kernel_rfl) (R_int (by kernel_rfl) (w64 (by omega))) ?_
      refine ql (.int .i64 (k + 1)) (by kernel_rfl) (by kernel_rfl) ?_
      refine wpList_nil ?_
      refine x_then ?_
      exact ⟨L.length - (k + 1).toNat, by omega, (fun k_ : Nat => List.getD [.slice (some ad5) L.length c, .int .i64 i, undef, undef, .int .i64 0, .int .i64 (n + 1), .int .i64 (k + 1), .int .i64 k, .slice (some ad5) L.length c, .int .i64 (L.length : Int), .bool true, .int .i64 k, .int .i64 (k + 1), .slice (some ad5) L.length c, .int .i64 k, .pointer (some (ad5.add k.toNat)), .int .i64 (rdI L k), .int .i64 i, .bool true, .int .i64 n, .int .i64 (n + 1), undef] k_ undef), k + 1, (n + 1), congrArg Fr (by kernel_rfl), rfl, by omega, by omega, (by omega), (by omega), (by have h_ := rkP_step hP k0 (by omega); rw [if_pos hc6] at h_; simpa using h_), HS⟩
    · skip
      refine ql (.bool false) (by kernel_rfl) (R_nbool (p := (rdI L k) < i) (by kernel_rfl) (hc6)) ?_
      refine wpList_nil ?_
      refine x_then ?_
      refine wp_cond_false (by kernel_rfl) ?_
      refine wp_skip ?_
      refine x_inb ?_
      refine x_then ?_
      refine wp_region_lit ?_
      refine ql (.int .i64 k) (by kernel_rfl) (by kernel_rfl) ?_
      refine ql (.int .i64 (k + 1)) (by kernel_rfl) (R_int (by kernel_rfl) (w64 (by omega))) ?_
      refine ql (.int .i64 (k + 1)) (by kernel_rfl) (by kernel_rfl) ?_
      refine wpList_nil ?_
      refine x_then ?_
      exact ⟨L.length - (k + 1).toNat, by omega, (fun k_ : Nat => List.getD [.slice (some ad5) L.length c, .int .i64 i, undef, undef, .int .i64 0, .int .i64 n, .int .i64 (k + 1), .int .i64 k, .slice (some ad5) L.length c, .int .i64 (L.length : Int), .bool true, .int .i64 k, .int .i64 (k + 1), .slice (some ad5) L.length c, .int .i64 k, .pointer (some (ad5.add k.toNat)), .int .i64 (rdI L k), .int .i64 i, .bool false, (J1 19), (J1 20), undef] k_ undef), k + 1, n, congrArg Fr (by kernel_rfl), rfl, by omega, by omega, (by omega), (by omega), (by have h_ := rkP_step hP k0 (by omega); rw [if_neg hc6] at h_; simpa using h_), HS⟩
  · skip
    refine ql (.bool false) (by kernel_rfl) (R_nbool (p := k < (L.length : Int)) (by kernel_rfl) (hc4)) ?_
    refine wpList_nil ?_
    refine x_then ?_
    refine wp_cond_false (by kernel_rfl) ?_
    refine wp_exit ?_
    refine x_thenE ?_
    refine x_thenE ?_
    refine x_hit ?_
    refine x_then ?_
    refine wp_seq ?_
    refine wp_region_lit ?_
    refine ql (.int .i64 n) (by kernel_rfl) (by kernel_rfl) ?_
    refine ql (.int .i64 n) (by kernel_rfl) (by kernel_rfl) ?_
    refine wpList_nil ?_
    refine x_then ?_
    refine wp_ret ?_
    refine ret_ (.int .i64 n) (by kernel_rfl) ?_
    exact ⟨by rw [rkP_end hP (by omega)], HS⟩

set_option maxRecDepth 100000 in
set_option maxHeartbeats 1000000 in
theorem r4meet (A : Option Addr) (c : Nat) (L : List Int) (B : Option Addr) (c2 : Nat) (M : List Int) (W : World) (hr : Rd W A (ci .i64 L)) (hl : L.length ≤ 100000) (hs : Rd W B (ci .i64 M)) (hl2 : M.length ≤ 100000) : Calls Try.prog 31 #[.slice A L.length c, .slice B M.length c2] W fun e W' => ∃ A' c', e = .returned (.slice A' (mt L M).length c') ∧ St W (owns []) W' [row A' ((mt L M).length) c' (ci .i64 (mt L M)) 3 1] := by
  have HS : St W (owns []) W [] := St.start W _
  refine calls_enter [.slice A L.length c, .slice B M.length c2, undef, undef, undef, undef, undef, undef, undef, undef, undef, undef, undef, undef, undef, undef, undef, undef, undef, undef, undef, undef, undef, undef, undef, undef, undef, undef] Try.func31 rfl (by kernel_rfl) ?_
  refine wp_seq ?_
  refine wp_region_lit ?_
  refine ql (.slice none 0 0) (by kernel_rfl) (by kernel_rfl) ?_
  refine wpList_nil ?_
  refine x_then ?_
  refine wp_seq ?_
  refine wp_region_lit ?_
  refine kl HS 0 [] 3 1 (by kernel_rfl) (by kernel_rfl) rfl (by decide) ?_
  intro g1 W2 H_
  replace HS : St W (owns []) W2 [row (some ⟨g1, 0, none⟩) 0 0 (ci .i64 ([])) 3 1] := H_.cast_ (by kernel_rfl)
  clear H_
  refine ql (.slice (some ⟨g1, 0, none⟩) 0 0) (by kernel_rfl) (by kernel_rfl) ?_
  refine wpList_nil ?_
  refine x_then ?_
  refine wp_seq ?_
  refine wp_seq ?_
  refine wp_region_lit ?_
  refine ql (.int .i64 0) (by kernel_rfl) (by kernel_rfl) ?_
  refine wpList_nil ?_
  refine x_then ?_
  refine wp_block ?_
  refine wp_loop_ghost (fun kq a' w' => ∃ (J3 : Nat → Value) (k : Int) (out : List Int) (A6 : Option Addr) (c6 : Nat) , a' = Fr [.slice A L.length c, .slice B M.length c2, undef, undef, .slice none 0 0, .slice A6 out.length c6, .int .i64 k, .slice (some ⟨g1, 0, none⟩) 0 0, (J3 8), (J3 9), (J3 10), (J3 11), (J3 12), (J3 13), (J3 14), (J3 15), (J3 16), (J3 17), (J3 18), (J3 19), (J3 20), (J3 21), (J3 22), (J3 23), (J3 24), (J3 25), (J3 26), undef] ∧ kq = (L.length - (k).toNat) ∧ (0 ≤ k) ∧ (k ≤ L.length) ∧ (MtK L M out k) ∧ St W (owns []) w' [row A6 out.length c6 (ci .i64 out) 3 1]) (L.length - ((0 : Int)).toNat) ⟨(fun k_ : Nat => List.getD [.slice A L.length c, .slice B M.length c2, undef, undef, .slice none 0 0, .slice (some ⟨g1, 0, none⟩) 0 0, .int .i64 0, .slice (some ⟨g1, 0, none⟩) 0 0, undef, undef, undef, undef, undef, undef, undef, undef, undef, undef, undef, undef, undef, undef, undef, undef, undef, undef, undef, undef] k_ undef), (0 : Int), [], some ⟨g1, 0, none⟩, 0, congrArg Fr (by kernel_rfl), rfl, by omega, by omega, mtK_start L M, HS⟩ ?_
  clear HS
  intro kq4 a' W5 hrel
  obtain ⟨J3, k, out, A6, c6, rfl, hk, k0, k1, hP, HS⟩ := hrel
  have hol := mtK_len hP
  refine wp_seq ?_
  refine wp_seq ?_
  refine wp_region_lit ?_
  refine ql (.int .i64 k) (by kernel_rfl) (by kernel_rfl) ?_
  refine ql (.slice A L.length c) (by kernel_rfl) (by kernel_rfl) ?_
  refine ql (.int .i64 (L.length : Int)) (by kernel_rfl) (by kernel_rfl) ?_
  by_cases hc6 : k < (L.length : Int)
  · skip
    refine ql (.bool true) (by kernel_rfl) (R_bool (p := k < (L.length : Int)) (by kernel_rfl) (hc6)) ?_
    refine wpList_nil ?_
    refine x_then ?_
    refine wp_cond_true (by kernel_rfl) ?_
    refine wp_skip ?_
    refine x_then ?_
    refine wp_seq ?_
    refine wp_block ?_
    refine wp_seq ?_
    refine wp_region_lit ?_
    refine ql (.slice B M.length c2) (by kernel_rfl) (by kernel_rfl) ?_
    refine ql (.slice A L.length c) (by kernel_rfl) (by kernel_rfl) ?_
    refine ql (.int .i64 k) (by kernel_rfl) (by kernel_rfl) ?_
    obtain ⟨ad7, rfl⟩ := Rd.isSome_ hr (by rw [ci_len]; omega)
    refine ql (.pointer (some (ad7.add k.toNat))) (by kernel_rfl) (R_indexA1 (k := .i64) (p := ad7) (n := L.length) (c := c) (i := k) (by kernel_rfl) (by kernel_rfl) Try.underlying22 (by kernel_rfl) (by omega) (by omega)) ?_
    refine ql (.int .i64 (rdI L k)) (by kernel_rfl) (R_load (p := ad7.add k.toNat) (by kernel_rfl) (by kernel_rfl) (by kernel_rfl) (HS.old0 (hr.at_ (ci_rd (i := k) (by omega) (by omega))))) ?_
    refine qc (f := 29) (args := #[.slice B M.length c2, .int .i64 (rdI L k)]) (by kernel_rfl) (R_call #[.slice B M.length c2, .int .i64 (rdI L k)] Try.func29 (by kernel_rfl) (by kernel_rfl) (by kernel_rfl)) ?_
    by_cases hv : rdI L k ∈ M
    · skip
      have hdx : decide (rdI L k ∈ M) = true := decide_eq_true hv
      refine (r4has B c2 M (rdI L k) _ (hs.old0 HS) hl2).mono ?_
      rintro e W8 ⟨rfl, H_⟩
      rw [hdx]
      refine ⟨_, rfl, ?_⟩
      replace HS : St W (owns []) W8 [row A6 out.length c6 (ci .i64 out) 3 1] := HS.join (F := []) (G := []) H_
      clear H_
      refine wpList_nil ?_
      refine x_then ?_
      refine wp_cond_true (by kernel_rfl) ?_
      refine wp_region_lit ?_
      refine ql (.slice A6 out.length c6) (by kernel_rfl) (by kernel_rfl) ?_
      refine ql (.slice (some ad7) L.length c) (by kernel_rfl) (by kernel_rfl) ?_
      refine ql (.int .i64 k) (by kernel_rfl) (by kernel_rfl) ?_
      refine ql (.pointer (some (ad7.add k.toNat))) (by kernel_rfl) (R_indexA1 (k := .i64) (p := ad7) (n := L.length) (c := c) (i := k) (by kernel_rfl) (by kernel_rfl) Try.underlying22 (by kernel_rfl) (by omega) (by omega)) ?_
      refine ql (.int .i64 (rdI L k)) (by kernel_rfl) (R_load (p := ad7.add k.toNat) (by kernel_rfl) (by kernel_rfl) (by kernel_rfl) (HS.old0 (hr.at_ (ci_rd (i := k) (by omega) (by omega))))) ?_
      refine kl HS 1 [.int .i64 (rdI L k)] 3 1 (by kernel_rfl) (by kernel_rfl) rfl (by decide) ?_
      intro g9 W10 H_
      replace HS : St W (owns []) W10 [row (some ⟨g9, 0, none⟩) 1 1 (ci .i64 ([rdI L k])) 3 1, row A6 out.length c6 (ci .i64 out) 3 1] := H_.cast_ (by kernel_rfl)
      clear H_
      obtain ⟨xs14, xs14_⟩ : ∃ z_ : List Int, z_ = out ++ ([rdI L k]) := ⟨_, rfl⟩
      have xs14l : xs14.length = out.length + 1 := by rw [xs14_, List.length_append] <;> (try simp only [List.length_cons, List.length_nil]) <;> omega
      refine ka1 HS 1 rfl (Src.of_row HS (i := 0) rfl ci_one) [.int .i64 0] 8 xs14.length (ci .i64 xs14) (by omega) (by rw [xs14_, ci_app]) (by kernel_rfl) (by kernel_rfl) (by kernel_rfl) Try.underlying22 (by kernel_rfl) (by kernel_rfl) (by kernel_rfl) (by kernel_rfl) (by decide) (by omega) (by omega) ?_
      intro A11 c12 W13 H_
      replace HS : St W (owns []) W13 [row (some ⟨g9, 0, none⟩) 1 1 (ci .i64 ([rdI L k])) 3 1, row A11 xs14.length c12 (ci .i64 xs14) 3 1] := H_
      clear H_
      refine ql (.slice A11 xs14.length c12) (by kernel_rfl) (by kernel_rfl) ?_
      refine wpList_nil ?_
      refine x_inb ?_
      refine x_then ?_
      refine wp_region_lit ?_
      refine ql (.int .i64 k) (by kernel_rfl) (by kernel_rfl) ?_
      refine ql (.int .i64 (k + 1)) (by kernel_rfl) (R_int (by kernel_rfl) (w64 (by omega))) ?_
      refine ql (.int .i64 (k + 1)) (by kernel_rfl) (by kernel_rfl) ?_
      refine wpList_nil ?_
      replace HS := HS.drop1
      refine x_then ?_
      exact ⟨L.length - (k + 1).toNat, by omega, (fun k_ : Nat => List.getD [.slice (some ad7) L.length c, .slice B M.length c2, undef, undef, .slice none 0 0, .slice A11 xs14.length c12, .int .i64 (k + 1), .slice (some ⟨g1, 0, none⟩) 0 0, .int .i64 k, .slice (some ad7) L.length c, .int .i64 (L.length : Int), .bool true, .int .i64 k, .int .i64 (k + 1), .slice B M.length c2, .slice (some ad7) L.length c, .int .i64 k, .pointer (some (ad7.add k.toNat)), .int .i64 (rdI L k), .bool true, .slice A6 out.length c6, .slice (some ad7) L.length c, .int .i64 k, .pointer (some (ad7.add k.toNat)), .int .i64 (rdI L k), .slice (some ⟨g9, 0, none⟩) 1 1, .slice A11 xs14.length c12, undef] k_ undef), k + 1, xs14, A11, c12, congrArg Fr (by kernel_rfl), rfl, by omega, by omega, (by rw [xs14_]; exact mtK_t hP k0 (by omega) hv), HS⟩
    · skip
      have hdx : decide (rdI L k ∈ M) = false := decide_eq_false hv
      refine (r4has B c2 M (rdI L k) _ (hs.old0 HS) hl2).mono ?_
      rintro e W15 ⟨rfl, H_⟩
      rw [hdx]
      refine ⟨_, rfl, ?_⟩
      replace HS : St W (owns []) W15 [row A6 out.length c6 (ci .i64 out) 3 1] := HS.join (F := []) (G := []) H_
      clear H_
      refine wpList_nil ?_
      refine x_then ?_
      refine wp_cond_false (by kernel_rfl) ?_
      refine wp_skip ?_
      refine x_inb ?_
      refine x_then ?_
      refine wp_region_lit ?_
      refine ql (.int .i64 k) (by kernel_rfl) (by kernel_rfl) ?_
      refine ql (.int .i64 (k + 1)) (by kernel_rfl) (R_int (by kernel_rfl) (w64 (by omega))) ?_
      refine ql (.int .i64 (k + 1)) (by kernel_rfl) (by kernel_rfl) ?_
      refine wpList_nil ?_
      refine x_then ?_
      exact ⟨L.length - (k + 1).toNat, by omega, (fun k_ : Nat => List.getD [.slice (some ad7) L.length c, .slice B M.length c2, undef, undef, .slice none 0 0, .slice A6 out.length c6, .int .i64 (k + 1), .slice (some ⟨g1, 0, none⟩) 0 0, .int .i64 k, .slice (some ad7) L.length c, .int .i64 (L.length : Int), .bool true, .int .i64 k, .int .i64 (k + 1), .slice B M.length c2, .slice (some ad7) L.length c, .int .i64 k, .pointer (some (ad7.add k.toNat)), .int .i64 (rdI L k), .bool false, (J3 20), (J3 21), (J3 22), (J3 23), (J3 24), (J3 25), (J3 26), undef] k_ undef), k + 1, out, A6, c6, congrArg Fr (by kernel_rfl), rfl, by omega, by omega, mtK_f hP k0 (by omega) hv, HS⟩
  · skip
    refine ql (.bool false) (by kernel_rfl) (R_nbool (p := k < (L.length : Int)) (by kernel_rfl) (hc6)) ?_
    refine wpList_nil ?_
    refine x_then ?_
    refine wp_cond_false (by kernel_rfl) ?_
    refine wp_exit ?_
    refine x_thenE ?_
    refine x_thenE ?_
    refine x_hit ?_
    refine x_then ?_
    refine wp_seq ?_
    refine wp_region_lit ?_
    refine ql (.slice A6 out.length c6) (by kernel_rfl) (by kernel_rfl) ?_
    refine ql (.slice A6 out.length c6) (by kernel_rfl) (by kernel_rfl) ?_
    refine wpList_nil ?_
    refine x_then ?_
    refine wp_ret ?_
    refine ret_ (.slice A6 out.length c6) (by kernel_rfl) ?_
    have hq := mtK_end hP (by omega)
    rw [← hq]
    exact ⟨_, _, rfl, HS⟩

open Go.Shelf
set_option maxRecDepth 100000 in
set_option maxHeartbeats 1000000 in
theorem sawake (W : World) : Calls Try.prog 10 #[] W fun e W' => e = .returned (.bool true) ∧ St W (owns []) W' [] := by
  have HS : St W (owns []) W [] := St.start W _
  refine calls_enter [undef, undef, undef, undef, undef, undef, undef, undef, undef, undef, undef, undef, undef, undef, undef, undef, undef, undef, undef, undef, undef, undef, undef, undef, undef, undef, undef] Try.func10 rfl (by kernel_rfl) ?_
  refine wp_seq ?_
  refine wp_region_lit ?_
  refine ql (.bool false) (by kernel_rfl) (by kernel_rfl) ?_
  refine wpList_nil ?_
  refine x_then ?_
  refine wp_seq ?_
  refine wp_region_lit ?_
  refine kl HS 4 [.int .i64 5, .int .i64 1, .int .i64 5, .int .i64 (-2)] 3 1 (by kernel_rfl) (by kernel_rfl) rfl (by decide) ?_
  intro g1 W2 H_
  replace HS : St W (owns []) W2 [row (some ⟨g1, 0, none⟩) 4 4 (ci .i64 ([5, 1, 5, -2])) 3 1] := H_.cast_ (by kernel_rfl)
  clear H_
  refine qc (f := 11) (args := #[.slice (some ⟨g1, 0, none⟩) 4 4]) (by kernel_rfl) (R_call #[.slice (some ⟨g1, 0, none⟩) 4 4] Try.func11 (by kernel_rfl) (by kernel_rfl) (by kernel_rfl)) ?_
  have hof : ofL [5, 1, 5, -2] = [1, 5] := by decide
  refine (sof (some ⟨g1, 0, none⟩) 4 [5, 1, 5, -2] _ (Rd.row HS (i := 0) rfl) (by first | omega | decide)).mono ?_
  rintro e W6 ⟨g3, A4, c5, rfl, H_⟩
  rw [hof] at H_
  refine ⟨_, rfl, ?_⟩
  replace HS : St W (owns []) W6 [blk g3 [.slice A4 (([1, 5]).length) c5] 77, row A4 (([1, 5]).length) c5 (ci .i32 ([1, 5])) 21 1, row (some ⟨g1, 0, none⟩) 4 4 (ci .i64 ([5, 1, 5, -2])) 3 1] := HS.join (F := []) (G := [blk g3 [.slice A4 (([1, 5]).length) c5] 77, row A4 (([1, 5]).length) c5 (ci .i32 ([1, 5])) 21 1]) H_
  clear H_
  refine ql (.pointer (some ⟨g3, 0, none⟩)) (by kernel_rfl) (by kernel_rfl) ?_
  refine wpList_nil ?_
  refine x_then ?_
  refine wp_seq ?_
  refine wp_region_lit ?_
  refine ql (.pointer (some ⟨g3, 0, none⟩)) (by kernel_rfl) (by kernel_rfl) ?_
  refine qc (f := 12) (args := #[.pointer (some ⟨g3, 0, none⟩), .int .i64 1]) (by kernel_rfl) (R_call #[.pointer (some ⟨g3, 0, none⟩), .int .i64 1] Try.func12 (by kernel_rfl) (by kernel_rfl) (by kernel_rfl)) ?_
  refine (sat_in g3 c5 A4 ([1, 5]) 1 _ (HS.cell (i := 0) (j := 0) rfl rfl) (Rd.row HS (i := 1) rfl) (⟨by decide, by decide⟩ : S31 [1, 5]) (by decide) (by decide) (by decide)).mono ?_
  rintro e W7 ⟨rfl, H_⟩
  rw [show rdI [1, 5] 1 = 5 by kernel_rfl]
  refine ⟨_, rfl, ?_⟩
  replace HS : St W (owns []) W7 [blk g3 [.slice A4 (([1, 5]).length) c5] 77, row A4 (([1, 5]).length) c5 (ci .i32 ([1, 5])) 21 1, row (some ⟨g1, 0, none⟩) 4 4 (ci .i64 ([5, 1, 5, -2])) 3 1] := HS.join (F := []) (G := []) H_
  clear H_
  refine ql (.tuple #[.int .i64 5, .bool true]) (by kernel_rfl) (by kernel_rfl) ?_
  refine ql (.int .i64 5) (by kernel_rfl) (by kernel_rfl) ?_
  refine ql (.bool true) (by kernel_rfl) (by kernel_rfl) ?_
  refine ql (.int .i64 5) (by kernel_rfl) (by kernel_rfl) ?_
  refine ql (.bool true) (by kernel_rfl) (by kernel_rfl) ?_
  refine wpList_nil ?_
  refine x_then ?_
  refine wp_seq ?_
  refine wp_region_lit ?_
  refine ql (.pointer (some ⟨g3, 0, none⟩)) (by kernel_rfl) (by kernel_rfl) ?_
  refine qc (f := 26) (args := #[.pointer (some ⟨g3, 0, none⟩)]) (by kernel_rfl) (R_call #[.pointer (some ⟨g3, 0, none⟩)] Try.func26 (by kernel_rfl) (by kernel_rfl) (by kernel_rfl)) ?_
  refine (slist g3 c5 A4 ([1, 5]) _ (HS.cell (i := 0) (j := 0) rfl rfl) (Rd.row HS (i := 1) rfl) (⟨by decide, by decide⟩ : S31 [1, 5]) (by decide)).mono ?_
  rintro e W10 ⟨A8, c9, rfl, H_⟩
  refine ⟨_, rfl, ?_⟩
  replace HS : St W (owns []) W10 [row A8 (([1, 5]).length) c9 (ci .i64 ([1, 5])) 3 1, blk g3 [.slice A4 (([1, 5]).length) c5] 77, row A4 (([1, 5]).length) c5 (ci .i32 ([1, 5])) 21 1, row (some ⟨g1, 0, none⟩) 4 4 (ci .i64 ([5, 1, 5, -2])) 3 1] := HS.join (F := []) (G := [row A8 (([1, 5]).length) c9 (ci .i64 ([1, 5])) 3 1]) H_
  clear H_
  refine kl HS 2 [.int .i64 1, .int .i64 5] 3 1 (by kernel_rfl) (by kernel_rfl) rfl (by decide) ?_
  intro g11 W12 H_
  replace HS : St W (owns []) W12 [row (some ⟨g11, 0, none⟩) 2 2 (ci .i64 ([1, 5])) 3 1, row A8 (([1, 5]).length) c9 (ci .i64 ([1, 5])) 3 1, blk g3 [.slice A4 (([1, 5]).length) c5] 77, row A4 (([1, 5]).length) c5 (ci .i32 ([1, 5])) 21 1, row (some ⟨g1, 0, none⟩) 4 4 (ci .i64 ([5, 1, 5, -2])) 3 1] := H_.cast_ (by kernel_rfl)
  clear H_
  refine qc (f := 25) (args := #[.slice A8 (([1, 5]).length) c9, .slice (some ⟨g11, 0, none⟩) 2 2]) (by kernel_rfl) (R_call #[.slice A8 (([1, 5]).length) c9, .slice (some ⟨g11, 0, none⟩) 2 2] Try.func25 (by kernel_rfl) (by kernel_rfl) (by kernel_rfl)) ?_
  refine (r1same A8 (some ⟨g11, 0, none⟩) c9 2 ([1, 5]) ([1, 5]) _ (Rd.row HS (i := 1) rfl) (by first | omega | decide) (Rd.row HS (i := 0) rfl) (by first | omega | decide)).mono ?_
  rintro e W13 ⟨rfl, H_⟩
  rw [decide_eq_true rfl]
  refine ⟨_, rfl, ?_⟩
  replace HS : St W (owns []) W13 [row (some ⟨g11, 0, none⟩) 2 2 (ci .i64 ([1, 5])) 3 1, row A8 (([1, 5]).length) c9 (ci .i64 ([1, 5])) 3 1, blk g3 [.slice A4 (([1, 5]).length) c5] 77, row A4 (([1, 5]).length) c5 (ci .i32 ([1, 5])) 21 1, row (some ⟨g1, 0, none⟩) 4 4 (ci .i64 ([5, 1, 5, -2])) 3 1] := HS.join (F := []) (G := []) H_
  clear H_
  refine ql (.bool true) (by kernel_rfl) (by kernel_rfl) ?_
  refine ql (.pointer (some ⟨g3, 0, none⟩)) (by kernel_rfl) (by kernel_rfl) ?_
  refine qc (f := 14) (args := #[.pointer (some ⟨g3, 0, none⟩), .int .i64 5]) (by kernel_rfl) (R_call #[.pointer (some ⟨g3, 0, none⟩), .int .i64 5] Try.func14 (by kernel_rfl) (by kernel_rfl) (by kernel_rfl)) ?_
  refine (srank g3 c5 A4 ([1, 5]) 5 _ (HS.cell (i := 2) (j := 0) rfl rfl) (Rd.row HS (i := 3) rfl) (⟨by decide, by decide⟩ : S31 [1, 5]) (by decide)).mono ?_
  rintro e W14 ⟨rfl, H_⟩
  rw [show rk [1, 5] 5 = 1 by decide]
  refine ⟨_, rfl, ?_⟩
  replace HS : St W (owns []) W14 [row (some ⟨g11, 0, none⟩) 2 2 (ci .i64 ([1, 5])) 3 1, row A8 (([1, 5]).length) c9 (ci .i64 ([1, 5])) 3 1, blk g3 [.slice A4 (([1, 5]).length) c5] 77, row A4 (([1, 5]).length) c5 (ci .i32 ([1, 5])) 21 1, row (some ⟨g1, 0, none⟩) 4 4 (ci .i64 ([5, 1, 5, -2])) 3 1] := HS.join (F := []) (G := []) H_
  clear H_
  refine ql (.bool true) (by kernel_rfl) (R_beq (b := ((1 : Int) == 1)) (by kernel_rfl) (by decide)) ?_
  refine ql (.bool true) (by kernel_rfl) (by kernel_rfl) ?_
  refine ql (.bool true) (by kernel_rfl) (by kernel_rfl) ?_
  refine ql (.int .i64 5) (by kernel_rfl) (by kernel_rfl) ?_
  refine ql (.bool true) (by kernel_rfl) (R_beq (b := ((5 : Int) == 5)) (by kernel_rfl) (by decide)) ?_
  refine ql (.bool true) (by kernel_rfl) (by kernel_rfl) ?_
  refine ql (.bool true) (by kernel_rfl) (by kernel_rfl) ?_
  refine ql (.bool true) (by kernel_rfl) (by kernel_rfl) ?_
  refine ql (.bool true) (by kernel_rfl) (by kernel_rfl) ?_
  refine ql (.bool true) (by kernel_rfl) (by kernel_rfl) ?_
  refine wpList_nil ?_
  refine x_then ?_
  refine wp_ret ?_
  refine ret_ (.bool true) (by kernel_rfl) ?_
  replace HS := HS.drop1
  replace HS := HS.drop1
  replace HS := HS.drop1
  replace HS := HS.drop1
  replace HS := HS.drop1
  exact ⟨rfl, HS⟩

set_option maxRecDepth 100000 in
set_option maxHeartbeats 1000000 in
theorem sdoes (g c : Nat) (A : Option Addr) (L : List Int) (h c2 : Nat) (B : Option Addr) (M : List Int) (kd i : Int) (W : World) (M_ : Nat → Prop) (HS : St W M_ W [blk g [.slice A L.length c] 77, row A L.length c (ci .i32 L) 21 1, blk h [.slice B M.length c2] 77, row B M.length c2 (ci .i32 M) 21 1]) (hs : S31 L) (hl : L.length ≤ 40000) (hs2 : S31 M) (hl2 : M.length ≤ 40000) : Calls Try.prog 28 #[.pointer (some ⟨g, 0, none⟩), .pointer (some ⟨h, 0, none⟩), .agg #[.int .i64 kd, .int .i64 i]] W fun e W' => ∃ A' c' B' c2', e = .returned (.bool (sB 2147483648 2147483648 kd i L M)) ∧ St W M_ W' [blk g [.slice A' ((sL 2147483648 2147483648 kd i L M).length) c'] 77, row A' ((sL 2147483648 2147483648 kd i L M).length) c' (ci .i32 (sL 2147483648 2147483648 kd i L M)) 21 1, blk h [.slice B' ((sM 2147483648 2147483648 kd i L M).length) c2'] 77, row B' ((sM 2147483648 2147483648 kd i L M).length) c2' (ci .i32 (sM 2147483648 2147483648 kd i L M)) 21 1] := by
  refine calls_enter [.pointer (some ⟨g, 0, none⟩), .pointer (some ⟨h, 0, none⟩), .agg #[.int .i64 kd, .int .i64 i], undef, undef, undef, undef, undef, undef, undef, undef, undef, undef, undef, undef, undef, undef, undef, undef, undef, undef, undef, undef, undef, undef, undef, undef, undef, undef, undef, undef, undef, undef, undef, undef, undef, undef, undef, undef, undef, undef, undef, undef] Try.func28 rfl (by kernel_rfl) ?_
  refine wp_seq ?_
  refine wp_region_lit ?_
  refine kb HS [.int .i64 kd, .int .i64 i] 49 (fun g => .pointer (some ⟨g, 0, none⟩)) (by kernel_rfl) (by kernel_rfl) ?_
  intro g1 W2 H_
  replace HS : St W M_ W2 [blk g1 [.int .i64 kd, .int .i64 i] 49, blk g [.slice A L.length c] 77, row A L.length c (ci .i32 L) 21 1, blk h [.slice B M.length c2] 77, row B M.length c2 (ci .i32 M) 21 1] := H_
  clear H_
  refine ql (.bool false) (by kernel_rfl) (by kernel_rfl) ?_
  refine wpList_nil ?_
  refine x_then ?_
  refine wp_seq ?_
  refine wp_seq ?_
  refine wp_region_lit ?_
  refine ql (.pointer (some ⟨g1, 0, none⟩)) (by kernel_rfl) (by kernel_rfl) ?_
  refine ql (.int .i64 kd) (by kernel_rfl) (R_load (p := ⟨g1, 0, none⟩) (by kernel_rfl) (by kernel_rfl) (by kernel_rfl) (HS.cell (i := 0) (j := 0) rfl rfl)) ?_
  refine wpList_nil ?_
  refine x_then ?_
  refine wp_block ?_
  refine wp_seq ?_
  refine wp_region_lit ?_
  by_cases hc3 : kd = (0 : Int)
  · skip
    refine ql (.bool true) (by kernel_rfl) (R_beq (b := (kd == (0 : Int))) (by kernel_rfl) (beq_t (hc3))) ?_
    refine ql (.bool true) (by kernel_rfl) (by kernel_rfl) ?_
    refine wpList_nil ?_
    refine x_then ?_
    refine wp_cond_true (by kernel_rfl) ?_
    refine wp_seq ?_
    refine wp_region_lit ?_
    refine ql (.pointer (some ⟨g, 0, none⟩)) (by kernel_rfl) (by kernel_rfl) ?_
    refine ql (.pointer (some ⟨g1, 1, none⟩)) (by kernel_rfl) (by kernel_rfl) ?_
    refine ql (.int .i64 i) (by kernel_rfl) (R_load (p := ⟨g1, 1, none⟩) (by kernel_rfl) (by kernel_rfl) (by kernel_rfl) (HS.cell (i := 0) (j := 1) rfl rfl)) ?_
    refine qc (f := 32) (args := #[.pointer (some ⟨g, 0, none⟩), .int .i64 i]) (by kernel_rfl) (R_call #[.pointer (some ⟨g, 0, none⟩), .int .i64 i] Try.func32 (by kernel_rfl) (by kernel_rfl) (by kernel_rfl)) ?_
    replace HS : St W M_ W2 [blk g [.slice A L.length c] 77, row A L.length c (ci .i32 L) 21 1, blk g1 [.int .i64 kd, .int .i64 i] 49, blk h [.slice B M.length c2] 77, row B M.length c2 (ci .i32 M) 21 1] := HS.perm (perm_ [1, 2, 0, 3, 4] (by kernel_rfl) rfl)
    refine (sadd g c A L i _ _ (St.focus (F := [blk g [.slice A L.length c] 77, row A L.length c (ci .i32 L) 21 1]) HS) hs (by omega)).mono ?_
    rintro e W7 ⟨A4, c5, rfl, H_⟩
    refine ⟨_, rfl, ?_⟩
    replace HS : St W M_ W7 [blk g [.slice A4 ((addL 2147483648 L i).length) c5] 77, row A4 ((addL 2147483648 L i).length) c5 (ci .i32 (addL 2147483648 L i)) 21 1, blk g1 [.int .i64 kd, .int .i64 i] 49, blk h [.slice B M.length c2] 77, row B M.length c2 (ci .i32 M) 21 1] := HS.join (F := [blk g [.slice A L.length c] 77, row A L.length c (ci .i32 L) 21 1]) (G := [blk g [.slice A4 ((addL 2147483648 L i).length) c5] 77, row A4 ((addL 2147483648 L i).length) c5 (ci .i32 (addL 2147483648 L i)) 21 1]) H_
    clear H_
    refine ql (.bool (addB 2147483648 L i)) (by kernel_rfl) (by kernel_rfl) ?_
    refine wpList_nil ?_
    refine x_then ?_
    refine wp_ret ?_
    refine x_inbR ?_
    refine x_thenR ?_
    refine ret_ (.bool (addB 2147483648 L i)) (by kernel_rfl) ?_
    replace HS : St W M_ W7 [blk g [.slice A4 ((addL 2147483648 L i).length) c5] 77, row A4 ((addL 2147483648 L i).length) c5 (ci .i32 (addL 2147483648 L i)) 21 1, blk h [.slice B M.length c2] 77, row B M.length c2 (ci .i32 M) 21 1] := St.tail (F := [blk g1 [.int .i64 kd, .int .i64 i] 49]) (HS.perm (perm_ [2, 0, 1, 3, 4] (by kernel_rfl) rfl))
    have esL : sL 2147483648 2147483648 kd i L M = (addL 2147483648 L i) := by unfold sL; rw [if_pos (show kd = 0 by omega)]
    have esM : sM 2147483648 2147483648 kd i L M = (M) := by unfold sM; rw [if_neg (show ¬ kd = 2 by omega), if_neg (show ¬ kd = 3 by omega), if_neg (show ¬ kd = 5 by omega)]
    have esB : sB 2147483648 2147483648 kd i L M = (addB 2147483648 L i) := by unfold sB; rw [if_pos (show kd = 0 by omega)]
    exact ⟨_, _, _, _, by rw [esB], by rw [esL, esM]; exact HS⟩
  · skip
    refine ql (.bool false) (by kernel_rfl) (R_beq (b := (kd == (0 : Int))) (by kernel_rfl) (beq_f (hc3))) ?_
    refine ql (.bool false) (by kernel_rfl) (by kernel_rfl) ?_
    refine wpList_nil ?_
    refine x_then ?_
    refine wp_cond_false (by kernel_rfl) ?_
    refine wp_seq ?_
    refine wp_region_lit ?_
    by_cases hc8 : kd = (1 : Int)
    · skip
      refine ql (.bool true) (by kernel_rfl) (R_beq (b := (kd == (1 : Int))) (by kernel_rfl) (beq_t (hc8))) ?_
      refine ql (.bool true) (by kernel_rfl) (by kernel_rfl) ?_
      refine wpList_nil ?_
      refine x_then ?_
      refine wp_cond_true (by kernel_rfl) ?_
      refine wp_seq ?_
      refine wp_region_lit ?_
      refine ql (.pointer (some ⟨g, 0, none⟩)) (by kernel_rfl) (by kernel_rfl) ?_
      refine ql (.pointer (some ⟨g1, 1, none⟩)) (by kernel_rfl) (by kernel_rfl) ?_
      refine ql (.int .i64 i) (by kernel_rfl) (R_load (p := ⟨g1, 1, none⟩) (by kernel_rfl) (by kernel_rfl) (by kernel_rfl) (HS.cell (i := 0) (j := 1) rfl rfl)) ?_
      refine qc (f := 33) (args := #[.pointer (some ⟨g, 0, none⟩), .int .i64 i]) (by kernel_rfl) (R_call #[.pointer (some ⟨g, 0, none⟩), .int .i64 i] Try.func33 (by kernel_rfl) (by kernel_rfl) (by kernel_rfl)) ?_
      replace HS : St W M_ W2 [blk g [.slice A L.length c] 77, row A L.length c (ci .i32 L) 21 1, blk g1 [.int .i64 kd, .int .i64 i] 49, blk h [.slice B M.length c2] 77, row B M.length c2 (ci .i32 M) 21 1] := HS.perm (perm_ [1, 2, 0, 3, 4] (by kernel_rfl) rfl)
      refine (sdel g c A L i _ _ (St.focus (F := [blk g [.slice A L.length c] 77, row A L.length c (ci .i32 L) 21 1]) HS) hs (by omega)).mono ?_
      rintro e W12 ⟨A9, c10, rfl, H_⟩
      refine ⟨_, rfl, ?_⟩
      replace HS : St W M_ W12 [blk g [.slice A9 ((delL L i).length) c10] 77, row A9 ((delL L i).length) c10 (ci .i32 (delL L i)) 21 1, blk g1 [.int .i64 kd, .int .i64 i] 49, blk h [.slice B M.length c2] 77, row B M.length c2 (ci .i32 M) 21 1] := HS.join (F := [blk g [.slice A L.length c] 77, row A L.length c (ci .i32 L) 21 1]) (G := [blk g [.slice A9 ((delL L i).length) c10] 77, row A9 ((delL L i).length) c10 (ci .i32 (delL L i)) 21 1]) H_
      clear H_
      refine ql (.bool (delB L i)) (by kernel_rfl) (by kernel_rfl) ?_
      refine wpList_nil ?_
      refine x_then ?_
      refine wp_ret ?_
      refine x_inbR ?_
      refine x_thenR ?_
      refine ret_ (.bool (delB L i)) (by kernel_rfl) ?_
      replace HS : St W M_ W12 [blk g [.slice A9 ((delL L i).length) c10] 77, row A9 ((delL L i).length) c10 (ci .i32 (delL L i)) 21 1, blk h [.slice B M.length c2] 77, row B M.length c2 (ci .i32 M) 21 1] := St.tail (F := [blk g1 [.int .i64 kd, .int .i64 i] 49]) (HS.perm (perm_ [2, 0, 1, 3, 4] (by kernel_rfl) rfl))
      have esL : sL 2147483648 2147483648 kd i L M = (delL L i) := by unfold sL; rw [if_neg (show ¬ kd = 0 by omega), if_pos (show kd = 1 by omega)]
      have esM : sM 2147483648 2147483648 kd i L M = (M) := by unfold sM; rw [if_neg (show ¬ kd = 2 by omega), if_neg (show ¬ kd = 3 by omega), if_neg (show ¬ kd = 5 by omega)]
      have esB : sB 2147483648 2147483648 kd i L M = (delB L i) := by unfold sB; rw [if_neg (show ¬ kd = 0 by omega), if_pos (show kd = 1 by omega)]
      exact ⟨_, _, _, _, by rw [esB], by rw [esL, esM]; exact HS⟩
    · skip
      refine ql (.bool false) (by kernel_rfl) (R_beq (b := (kd == (1 : Int))) (by kernel_rfl) (beq_f (hc8))) ?_
      refine ql (.bool false) (by kernel_rfl) (by kernel_rfl) ?_
      refine wpList_nil ?_
      refine x_then ?_
      refine wp_cond_false (by kernel_rfl) ?_
      refine wp_seq ?_
      refine wp_region_lit ?_
      by_cases hc13 : kd = (2 : Int)
      · skip
        refine ql (.bool true) (by kernel_rfl) (R_beq (b := (kd == (2 : Int))) (by kernel_rfl) (beq_t (hc13))) ?_
        refine ql (.bool true) (by kernel_rfl) (by kernel_rfl) ?_
        refine wpList_nil ?_
        refine x_then ?_
        refine wp_cond_true (by kernel_rfl) ?_
        refine wp_seq ?_
        refine wp_region_lit ?_
        refine ql (.pointer (some ⟨h, 0, none⟩)) (by kernel_rfl) (by kernel_rfl) ?_
        refine ql (.pointer (some ⟨g1, 1, none⟩)) (by kernel_rfl) (by kernel_rfl) ?_
        refine ql (.int .i64 i) (by kernel_rfl) (R_load (p := ⟨g1, 1, none⟩) (by kernel_rfl) (by kernel_rfl) (by kernel_rfl) (HS.cell (i := 0) (j := 1) rfl rfl)) ?_
        refine qc (f := 32) (args := #[.pointer (some ⟨h, 0, none⟩), .int .i64 i]) (by kernel_rfl) (R_call #[.pointer (some ⟨h, 0, none⟩), .int .i64 i] Try.func32 (by kernel_rfl) (by kernel_rfl) (by kernel_rfl)) ?_
        replace HS : St W M_ W2 [blk h [.slice B M.length c2] 77, row B M.length c2 (ci .i32 M) 21 1, blk g1 [.int .i64 kd, .int .i64 i] 49, blk g [.slice A L.length c] 77, row A L.length c (ci .i32 L) 21 1] := HS.perm (perm_ [3, 4, 0, 1, 2] (by kernel_rfl) rfl)
        refine (sadd h c2 B M i _ _ (St.focus (F := [blk h [.slice B M.length c2] 77, row B M.length c2 (ci .i32 M) 21 1]) HS) hs2 (by omega)).mono ?_
        rintro e W17 ⟨A14, c15, rfl, H_⟩
        refine ⟨_, rfl, ?_⟩
        replace HS : St W M_ W17 [blk h [.slice A14 ((addL 2147483648 M i).length) c15] 77, row A14 ((addL 2147483648 M i).length) c15 (ci .i32 (addL 2147483648 M i)) 21 1, blk g1 [.int .i64 kd, .int .i64 i] 49, blk g [.slice A L.length c] 77, row A L.length c (ci .i32 L) 21 1] := HS.join (F := [blk h [.slice B M.length c2] 77, row B M.length c2 (ci .i32 M) 21 1]) (G := [blk h [.slice A14 ((addL 2147483648 M i).length) c15] 77, row A14 ((addL 2147483648 M i).length) c15 (ci .i32 (addL 2147483648 M i)) 21 1]) H_
        clear H_
        refine ql (.bool (addB 2147483648 M i)) (by kernel_rfl) (by kernel_rfl) ?_
        refine wpList_nil ?_
        refine x_then ?_
        refine wp_ret ?_
        refine x_inbR ?_
        refine x_thenR ?_
        refine ret_ (.bool (addB 2147483648 M i)) (by kernel_rfl) ?_
        replace HS : St W M_ W17 [blk g [.slice A L.length c] 77, row A L.length c (ci .i32 L) 21 1, blk h [.slice A14 ((addL 2147483648 M i).length) c15] 77, row A14 ((addL 2147483648 M i).length) c15 (ci .i32 (addL 2147483648 M i)) 21 1] := St.tail (F := [blk g1 [.int .i64 kd, .int .i64 i] 49]) (HS.perm (perm_ [2, 3, 4, 0, 1] (by kernel_rfl) rfl))
        have esL : sL 2147483648 2147483648 kd i L M = (L) := by unfold sL; rw [if_neg (show ¬ kd = 0 by omega), if_neg (show ¬ kd = 1 by omega), if_neg (show ¬ kd = 4 by omega)]
        have esM : sM 2147483648 2147483648 kd i L M = (addL 2147483648 M i) := by unfold sM; rw [if_pos (show kd = 2 by omega)]
        have esB : sB 2147483648 2147483648 kd i L M = (addB 2147483648 M i) := by unfold sB; rw [if_neg (show ¬ kd = 0 by omega), if_neg (show ¬ kd = 1 by omega), if_pos (show kd = 2 by omega)]
        exact ⟨_, _, _, _, by rw [esB], by rw [esL, esM]; exact HS⟩
      · skip
        refine ql (.bool false) (by kernel_rfl) (R_beq (b := (kd == (2 : Int))) (by kernel_rfl) (beq_f (hc13))) ?_
        refine ql (.bool false) (by kernel_rfl) (by kernel_rfl) ?_
        refine wpList_nil ?_
        refine x_then ?_
        refine wp_cond_false (by kernel_rfl) ?_
        refine wp_seq ?_
        refine wp_region_lit ?_
        by_cases hc18 : kd = (3 : Int)
        · skip
          refine ql (.bool true) (by kernel_rfl) (R_beq (b := (kd == (3 : Int))) (by kernel_rfl) (beq_t (hc18))) ?_
          refine ql (.bool true) (by kernel_rfl) (by kernel_rfl) ?_
          refine wpList_nil ?_
          refine x_then ?_
          refine wp_cond_true (by kernel_rfl) ?_
          refine wp_seq ?_
          refine wp_region_lit ?_
          refine ql (.pointer (some ⟨h, 0, none⟩)) (by kernel_rfl) (by kernel_rfl) ?_
          refine ql (.pointer (some ⟨g1, 1, none⟩)) (by kernel_rfl) (by kernel_rfl) ?_
          refine ql (.int .i64 i) (by kernel_rfl) (R_load (p := ⟨g1, 1, none⟩) (by kernel_rfl) (by kernel_rfl) (by kernel_rfl) (HS.cell (i := 0) (j := 1) rfl rfl)) ?_
          refine qc (f := 33) (args := #[.pointer (some ⟨h, 0, none⟩), .int .i64 i]) (by kernel_rfl) (R_call #[.pointer (some ⟨h, 0, none⟩), .int .i64 i] Try.func33 (by kernel_rfl) (by kernel_rfl) (by kernel_rfl)) ?_
          replace HS : St W M_ W2 [blk h [.slice B M.length c2] 77, row B M.length c2 (ci .i32 M) 21 1, blk g1 [.int .i64 kd, .int .i64 i] 49, blk g [.slice A L.length c] 77, row A L.length c (ci .i32 L) 21 1] := HS.perm (perm_ [3, 4, 0, 1, 2] (by kernel_rfl) rfl)
          refine (sdel h c2 B M i _ _ (St.focus (F := [blk h [.slice B M.length c2] 77, row B M.length c2 (ci .i32 M) 21 1]) HS) hs2 (by omega)).mono ?_
          rintro e W22 ⟨A19, c20, rfl, H_⟩
          refine ⟨_, rfl, ?_⟩
          replace HS : St W M_ W22 [blk h [.slice A19 ((delL M i).length) c20] 77, row A19 ((delL M i).length) c20 (ci .i32 (delL M i)) 21 1, blk g1 [.int .i64 kd, .int .i64 i] 49, blk g [.slice A L.length c] 77, row A L.length c (ci .i32 L) 21 1] := HS.join (F := [blk h [.slice B M.length c2] 77, row B M.length c2 (ci .i32 M) 21 1]) (G := [blk h [.slice A19 ((delL M i).length) c20] 77, row A19 ((delL M i).length) c20 (ci .i32 (delL M i)) 21 1]) H_
          clear H_
          refine ql (.bool (delB M i)) (by kernel_rfl) (by kernel_rfl) ?_
          refine wpList_nil ?_
          refine x_then ?_
          refine wp_ret ?_
          refine x_inbR ?_
          refine x_thenR ?_
          refine ret_ (.bool (delB M i)) (by kernel_rfl) ?_
          replace HS : St W M_ W22 [blk g [.slice A L.length c] 77, row A L.length c (ci .i32 L) 21 1, blk h [.slice A19 ((delL M i).length) c20] 77, row A19 ((delL M i).length) c20 (ci .i32 (delL M i)) 21 1] := St.tail (F := [blk g1 [.int .i64 kd, .int .i64 i] 49]) (HS.perm (perm_ [2, 3, 4, 0, 1] (by kernel_rfl) rfl))
          have esL : sL 2147483648 2147483648 kd i L M = (L) := by unfold sL; rw [if_neg (show ¬ kd = 0 by omega), if_neg (show ¬ kd = 1 by omega), if_neg (show ¬ kd = 4 by omega)]
          have esM : sM 2147483648 2147483648 kd i L M = (delL M i) := by unfold sM; rw [if_neg (show ¬ kd = 2 by omega), if_pos (show kd = 3 by omega)]
          have esB : sB 2147483648 2147483648 kd i L M = (delB M i) := by unfold sB; rw [if_neg (show ¬ kd = 0 by omega), if_neg (show ¬ kd = 1 by omega), if_neg (show ¬ kd = 2 by omega), if_pos (show kd = 3 by omega)]
          exact ⟨_, _, _, _, by rw [esB], by rw [esL, esM]; exact HS⟩
        · skip
          refine ql (.bool false) (by kernel_rfl) (R_beq (b := (kd == (3 : Int))) (by kernel_rfl) (beq_f (hc18))) ?_
          refine ql (.bool false) (by kernel_rfl) (by kernel_rfl) ?_
          refine wpList_nil ?_
          refine x_then ?_
          refine wp_cond_false (by kernel_rfl) ?_
          refine wp_seq ?_
          refine wp_region_lit ?_
          by_cases hc23 : kd = (4 : Int)
          · skip
            refine ql (.bool true) (by kernel_rfl) (R_beq (b := (kd == (4 : Int))) (by kernel_rfl) (beq_t (hc23))) ?_
            refine ql (.bool true) (by kernel_rfl) (by kernel_rfl) ?_
            refine wpList_nil ?_
            refine x_then ?_
            refine wp_cond_true (by kernel_rfl) ?_
            refine wp_seq ?_
            refine wp_region_lit ?_
            refine ql (.pointer (some ⟨g, 0, none⟩)) (by kernel_rfl) (by kernel_rfl) ?_
            refine ql (.pointer (some ⟨h, 0, none⟩)) (by kernel_rfl) (by kernel_rfl) ?_
            refine qc (f := 17) (args := #[.pointer (some ⟨g, 0, none⟩), .pointer (some ⟨h, 0, none⟩)]) (by kernel_rfl) (R_call #[.pointer (some ⟨g, 0, none⟩), .pointer (some ⟨h, 0, none⟩)] Try.func17 (by kernel_rfl) (by kernel_rfl) (by kernel_rfl)) ?_
            replace HS : St W M_ W2 [blk g [.slice A L.length c] 77, row A L.length c (ci .i32 L) 21 1, blk h [.slice B M.length c2] 77, row B M.length c2 (ci .i32 M) 21 1, blk g1 [.int .i64 kd, .int .i64 i] 49] := HS.perm (perm_ [1, 2, 3, 4, 0] (by kernel_rfl) rfl)
            have hulA24 := uni_len M L
            refine (sor g c A L h c2 B M _ _ (St.focus (F := [blk g [.slice A L.length c] 77, row A L.length c (ci .i32 L) 21 1, blk h [.slice B M.length c2] 77, row B M.length c2 (ci .i32 M) 21 1]) HS) hs (by omega) hs2 (by omega)).mono ?_
            rintro e W26 ⟨A24, c25, rfl, H_⟩
            refine ⟨_, rfl, ?_⟩
            replace HS : St W M_ W26 [blk g [.slice A24 ((uni L M).length) c25] 77, row A24 ((uni L M).length) c25 (ci .i32 (uni L M)) 21 1, blk h [.slice B M.length c2] 77, row B M.length c2 (ci .i32 M) 21 1, blk g1 [.int .i64 kd, .int .i64 i] 49] := HS.join (F := [blk g [.slice A L.length c] 77, row A L.length c (ci .i32 L) 21 1, blk h [.slice B M.length c2] 77, row B M.length c2 (ci .i32 M) 21 1]) (G := [blk g [.slice A24 ((uni L M).length) c25] 77, row A24 ((uni L M).length) c25 (ci .i32 (uni L M)) 21 1, blk h [.slice B M.length c2] 77, row B M.length c2 (ci .i32 M) 21 1]) H_
            clear H_
            refine ql (.bool (newB L M)) (by kernel_rfl) (by kernel_rfl) ?_
            refine wpList_nil ?_
            refine x_then ?_
            refine wp_ret ?_
            refine x_inbR ?_
            refine x_thenR ?_
            refine ret_ (.bool (newB L M)) (by kernel_rfl) ?_
            replace HS : St W M_ W26 [blk g [.slice A24 ((uni L M).length) c25] 77, row A24 ((uni L M).length) c25 (ci .i32 (uni L M)) 21 1, blk h [.slice B M.length c2] 77, row B M.length c2 (ci .i32 M) 21 1] := St.tail (F := [blk g1 [.int .i64 kd, .int .i64 i] 49]) (HS.perm (perm_ [4, 0, 1, 2, 3] (by kernel_rfl) rfl))
            have esL : sL 2147483648 2147483648 kd i L M = (uni L M) := by unfold sL; rw [if_neg (show ¬ kd = 0 by omega), if_neg (show ¬ kd = 1 by omega), if_pos (show kd = 4 by omega), if_pos rfl]
            have esM : sM 2147483648 2147483648 kd i L M = (M) := by unfold sM; rw [if_neg (show ¬ kd = 2 by omega), if_neg (show ¬ kd = 3 by omega), if_neg (show ¬ kd = 5 by omega)]
            have esB : sB 2147483648 2147483648 kd i L M = (newB L M) := by unfold sB; rw [if_neg (show ¬ kd = 0 by omega), if_neg (show ¬ kd = 1 by omega), if_neg (show ¬ kd = 2 by omega), if_neg (show ¬ kd = 3 by omega), if_pos (show kd = 4 by omega), if_pos rfl]
            exact ⟨_, _, _, _, by rw [esB], by rw [esL, esM]; exact HS⟩
          · skip
            refine ql (.bool false) (by kernel_rfl) (R_beq (b := (kd == (4 : Int))) (by kernel_rfl) (beq_f (hc23))) ?_
            refine ql (.bool false) (by kernel_rfl) (by kernel_rfl) ?_
            refine wpList_nil ?_
            refine x_then ?_
            refine wp_cond_false (by kernel_rfl) ?_
            refine wp_seq ?_
            refine wp_region_lit ?_
            by_cases hc27 : kd = (5 : Int)
            · skip
              refine ql (.bool true) (by kernel_rfl) (R_beq (b := (kd == (5 : Int))) (by kernel_rfl) (beq_t (hc27))) ?_
              refine ql (.bool true) (by kernel_rfl) (by kernel_rfl) ?_
              refine wpList_nil ?_
              refine x_then ?_
              refine wp_cond_true (by kernel_rfl) ?_
              refine wp_seq ?_
              refine wp_region_lit ?_
              refine ql (.pointer (some ⟨h, 0, none⟩)) (by kernel_rfl) (by kernel_rfl) ?_
              refine ql (.pointer (some ⟨g, 0, none⟩)) (by kernel_rfl) (by kernel_rfl) ?_
              refine qc (f := 17) (args := #[.pointer (some ⟨h, 0, none⟩), .pointer (some ⟨g, 0, none⟩)]) (by kernel_rfl) (R_call #[.pointer (some ⟨h, 0, none⟩), .pointer (some ⟨g, 0, none⟩)] Try.func17 (by kernel_rfl) (by kernel_rfl) (by kernel_rfl)) ?_
              replace HS : St W M_ W2 [blk h [.slice B M.length c2] 77, row B M.length c2 (ci .i32 M) 21 1, blk g [.slice A L.length c] 77, row A L.length c (ci .i32 L) 21 1, blk g1 [.int .i64 kd, .int .i64 i] 49] := HS.perm (perm_ [3, 4, 1, 2, 0] (by kernel_rfl) rfl)
              have hulA28 := uni_len L M
              refine (sor h c2 B M g c A L _ _ (St.focus (F := [blk h [.slice B M.length c2] 77, row B M.length c2 (ci .i32 M) 21 1, blk g [.slice A L.length c] 77, row A L.length c (ci .i32 L) 21 1]) HS) hs2 (by omega) hs (by omega)).mono ?_
              rintro e W30 ⟨A28, c29, rfl, H_⟩
              refine ⟨_, rfl, ?_⟩
              replace HS : St W M_ W30 [blk h [.slice A28 ((uni M L).length) c29] 77, row A28 ((uni M L).length) c29 (ci .i32 (uni M L)) 21 1, blk g [.slice A L.length c] 77, row A L.length c (ci .i32 L) 21 1, blk g1 [.int .i64 kd, .int .i64 i] 49] := HS.join (F := [blk h [.slice B M.length c2] 77, row B M.length c2 (ci .i32 M) 21 1, blk g [.slice A L.length c] 77, row A L.length c (ci .i32 L) 21 1]) (G := [blk h [.slice A28 ((uni M L).length) c29] 77, row A28 ((uni M L).length) c29 (ci .i32 (uni M L)) 21 1, blk g [.slice A L.length c] 77, row A L.length c (ci .i32 L) 21 1]) H_
              clear H_
              refine ql (.bool (newB M L)) (by kernel_rfl) (by kernel_rfl) ?_
              refine wpList_nil ?_
              refine x_then ?_
              refine wp_ret ?_
              refine x_inbR ?_
              refine x_thenR ?_
              refine ret_ (.bool (newB M L)) (by kernel_rfl) ?_
              replace HS : St W M_ W30 [blk g [.slice A L.length c] 77, row A L.length c (ci .i32 L) 21 1, blk h [.slice A28 ((uni M L).length) c29] 77, row A28 ((uni M L).length) c29 (ci .i32 (uni M L)) 21 1] := St.tail (F := [blk g1 [.int .i64 kd, .int .i64 i] 49]) (HS.perm (perm_ [4, 2, 3, 0, 1] (by kernel_rfl) rfl))
              have esL : sL 2147483648 2147483648 kd i L M = (L) := by unfold sL; rw [if_neg (show ¬ kd = 0 by omega), if_neg (show ¬ kd = 1 by omega), if_neg (show ¬ kd = 4 by omega)]
              have esM : sM 2147483648 2147483648 kd i L M = (uni M L) := by unfold sM; rw [if_neg (show ¬ kd = 2 by omega), if_neg (show ¬ kd = 3 by omega), if_pos (show kd = 5 by omega), if_pos rfl]
              have esB : sB 2147483648 2147483648 kd i L M = (newB M L) := by unfold sB; rw [if_neg (show ¬ kd = 0 by omega), if_neg (show ¬ kd = 1 by omega), if_neg (show ¬ kd = 2 by omega), if_neg (show ¬ kd = 3 by omega), if_neg (show ¬ kd = 4 by omega), if_pos (show kd = 5 by omega), if_pos rfl]
              exact ⟨_, _, _, _, by rw [esB], by rw [esL, esM]; exact HS⟩
            · skip
              refine ql (.bool false) (by kernel_rfl) (R_beq (b := (kd == (5 : Int))) (by kernel_rfl) (beq_f (hc27))) ?_
              refine ql (.bool false) (by kernel_rfl) (by kernel_rfl) ?_
              refine wpList_nil ?_
              refine x_then ?_
              refine wp_cond_false (by kernel_rfl) ?_
              refine wp_skip ?_
              refine x_inb ?_
              refine x_then ?_
              refine wp_seq ?_
              refine wp_region_lit ?_
              refine ql (.bool false) (by kernel_rfl) (by kernel_rfl) ?_
              refine wpList_nil ?_
              refine x_then ?_
              refine wp_ret ?_
              refine ret_ (.bool false) (by kernel_rfl) ?_
              replace HS := HS.drop1
              have esL : sL 2147483648 2147483648 kd i L M = (L) := by unfold sL; rw [if_neg (show ¬ kd = 0 by omega), if_neg (show ¬ kd = 1 by omega), if_neg (show ¬ kd = 4 by omega)]
              have esM : sM 2147483648 2147483648 kd i L M = (M) := by unfold sM; rw [if_neg (show ¬ kd = 2 by omega), if_neg (show ¬ kd = 3 by omega), if_neg (show ¬ kd = 5 by omega)]
              have esB : sB 2147483648 2147483648 kd i L M = (false) := by unfold sB; rw [if_neg (show ¬ kd = 0 by omega), if_neg (show ¬ kd = 1 by omega), if_neg (show ¬ kd = 2 by omega), if_neg (show ¬ kd = 3 by omega), if_neg (show ¬ kd = 4 by omega), if_neg (show ¬ kd = 5 by omega)]
              exact ⟨_, _, _, _, by rw [esB], by rw [esL, esM]; exact HS⟩

open Go.Shelf

end Go.Proofs.Ytdiodmdohkjafaa.GSparsePlays
