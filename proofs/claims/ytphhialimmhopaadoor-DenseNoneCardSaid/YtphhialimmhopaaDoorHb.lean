/- For every number a nil set of chapter 3 has no members, and takes none: DenseNone returns true, and its argument reads as it did. This text: the walks through the functions that the statement reaches. No condition but those in the statement. -/
import Derived.WalkKit
import Derived.StillTailTactics
import Derived.Deep.LoopGhost
import Derived.KernelRfl
import Derived.Deep.OwnRows
import Derived.Laws.OwnMore
import Derived.Laws.MakeOwn
import Derived.Maps.AppendAt
import Derived.OrdersHeld
import Derived.Test.YtphhialimmhopaaDoorProg
import Derived.Test.YtphhialimmhopaaDoorHa
namespace Go.Proofs.YtphhialimmhopaaDoor
open Go Go.RowKit Go.Shelf Go.Proofs.YtphhialimmhopaaDoor.Hp
attribute [local irreducible] wpStill wpList Code.wp TA
set_option linter.unusedVariables false
set_option linter.unusedSimpArgs false

set_option maxRecDepth 100000 in
set_option maxHeartbeats 1000000 in
theorem ones64 (x : Nat) (W : World) (hx : x < 18446744073709551616) : Calls Tryd.prog 27 #[.int .u64 (x : Int)] W fun e W' => e = .returned (.int .i64 ((pc 64 x : Nat) : Int)) ∧ St W (owns []) W' [] := by
  have HS : St W (owns []) W [] := St.start W _
  refine calls_enter [.int .u64 (x : Int), undef, undef, undef, undef, undef, undef, undef, undef, undef, undef, undef, undef, undef, undef, undef, undef, undef, undef, undef, undef, undef, undef, undef, undef, undef, undef, undef, undef, undef, undef, undef, undef, undef, undef] Tryd.func27 rfl (by kernel_rfl) ?_
  refine wp_seq ?_
  refine wp_region_lit ?_
  refine ql (.int .i64 0) (by kernel_rfl) (by kernel_rfl) ?_
  refine wpList_nil ?_
  refine x_then ?_
  refine wp_seq ?_
  refine wp_region_lit ?_
  refine ql (.int .u64 (x : Int)) (by kernel_rfl) (by kernel_rfl) ?_
  obtain ⟨v1, hv1⟩ : ∃ z_ : Nat, z_ = x >>> 1 := ⟨_, rfl⟩
  have hbv1 : v1 ≤ x := by rw [hv1]; exact Nat.shiftRight_le _ _
  refine ql (.int .u64 (v1 : Int)) (by kernel_rfl) (by rw [hv1]; exact R_shrN (k2 := .u64) (m := x) (k := 1) (by kernel_rfl) (by kernel_rfl) (by omega) (by omega)) ?_
  obtain ⟨v2, hv2⟩ : ∃ z_ : Nat, z_ = v1 &&& 6148914691236517205 := ⟨_, rfl⟩
  have hbv2 : v2 ≤ 6148914691236517205 := by rw [hv2]; exact Nat.and_le_right
  refine ql (.int .u64 (v2 : Int)) (by kernel_rfl) (by rw [hv2]; exact R_andN (m := v1) (k := 6148914691236517205) (by kernel_rfl) (by kernel_rfl) (by omega) (by omega)) ?_
  refine ql (.int .u64 (x : Int)) (by kernel_rfl) (by kernel_rfl) ?_
  obtain ⟨v3, hv3⟩ : ∃ z_ : Nat, z_ = x &&& 6148914691236517205 := ⟨_, rfl⟩
  have hbv3 : v3 ≤ 6148914691236517205 := by rw [hv3]; exact Nat.and_le_right
  refine ql (.int .u64 (v3 : Int)) (by kernel_rfl) (by rw [hv3]; exact R_andN (m := x) (k := 6148914691236517205) (by kernel_rfl) (by kernel_rfl) (by omega) (by omega)) ?_
  obtain ⟨v4, hv4⟩ : ∃ z_ : Nat, z_ = v2 + v3 := ⟨_, rfl⟩
  refine ql (.int .u64 (v4 : Int)) (by kernel_rfl) (by rw [hv4]; exact R_addN (m := v2) (k := v3) (by kernel_rfl) (by kernel_rfl) (by omega)) ?_
  refine ql (.int .u64 (v4 : Int)) (by kernel_rfl) (by kernel_rfl) ?_
  refine wpList_nil ?_
  refine x_then ?_
  refine wp_seq ?_
  refine wp_region_lit ?_
  refine ql (.int .u64 (v4 : Int)) (by kernel_rfl) (by kernel_rfl) ?_
  obtain ⟨v5, hv5⟩ : ∃ z_ : Nat, z_ = v4 >>> 2 := ⟨_, rfl⟩
  have hbv5 : v5 ≤ v4 := by rw [hv5]; exact Nat.shiftRight_le _ _
  refine ql (.int .u64 (v5 : Int)) (by kernel_rfl) (by rw [hv5]; exact R_shrN (k2 := .u64) (m := v4) (k := 2) (by kernel_rfl) (by kernel_rfl) (by omega) (by omega)) ?_
  obtain ⟨v6, hv6⟩ : ∃ z_ : Nat, z_ = v5 &&& 3689348814741910323 := ⟨_, rfl⟩
  have hbv6 : v6 ≤ 3689348814741910323 := by rw [hv6]; exact Nat.and_le_right
  refine ql (.int .u64 (v6 : Int)) (by kernel_rfl) (by rw [hv6]; exact R_andN (m := v5) (k := 3689348814741910323) (by kernel_rfl) (by kernel_rfl) (by omega) (by omega)) ?_
  refine ql (.int .u64 (v4 : Int)) (by kernel_rfl) (by kernel_rfl) ?_
  obtain ⟨v7, hv7⟩ : ∃ z_ : Nat, z_ = v4 &&& 3689348814741910323 := ⟨_, rfl⟩
  have hbv7 : v7 ≤ 3689348814741910323 := by rw [hv7]; exact Nat.and_le_right
  refine ql (.int .u64 (v7 : Int)) (by kernel_rfl) (by rw [hv7]; exact R_andN (m := v4) (k := 3689348814741910323) (by kernel_rfl) (by kernel_rfl) (by omega) (by omega)) ?_
  obtain ⟨v8, hv8⟩ : ∃ z_ : Nat, z_ = v6 + v7 := ⟨_, rfl⟩
  refine ql (.int .u64 (v8 : Int)) (by kernel_rfl) (by rw [hv8]; exact R_addN (m := v6) (k := v7) (by kernel_rfl) (by kernel_rfl) (by omega)) ?_
  refine ql (.int .u64 (v8 : Int)) (by kernel_rfl) (by kernel_rfl) ?_
  refine wpList_nil ?_
  refine x_then ?_
  refine wp_seq ?_
  refine wp_region_lit ?_
  refine ql (.int .u64 (v8 : Int)) (by kernel_rfl) (by kernel_rfl) ?_
  obtain ⟨v9, hv9⟩ : ∃ z_ : Nat, z_ = v8 >>> 4 := ⟨_, rfl⟩
  have hbv9 : v9 ≤ v8 := by rw [hv9]; exact Nat.shiftRight_le _ _
  refine ql (.int .u64 (v9 : Int)) (by kernel_rfl) (by rw [hv9]; exact R_shrN (k2 := .u64) (m := v8) (k := 4) (by kernel_rfl) (by kernel_rfl) (by omega) (by omega)) ?_
  refine ql (.int .u64 (v8 : Int)) (by kernel_rfl) (by kernel_rfl) ?_
  obtain ⟨v10, hv10⟩ : ∃ z_ : Nat, z_ = v9 + v8 := ⟨_, rfl⟩
  refine ql (.int .u64 (v10 : Int)) (by kernel_rfl) (by rw [hv10]; exact R_addN (m := v9) (k := v8) (by kernel_rfl) (by kernel_rfl) (by omega)) ?_
  obtain ⟨v11, hv11⟩ : ∃ z_ : Nat, z_ = v10 &&& 1085102592571150095 := ⟨_, rfl⟩
  have hbv11 : v11 ≤ 1085102592571150095 := by rw [hv11]; exact Nat.and_le_right
  refine ql (.int .u64 (v11 : Int)) (by kernel_rfl) (by rw [hv11]; exact R_andN (m := v10) (k := 1085102592571150095) (by kernel_rfl) (by kernel_rfl) (by omega) (by omega)) ?_
  refine ql (.int .u64 (v11 : Int)) (by kernel_rfl) (by kernel_rfl) ?_
  refine wpList_nil ?_
  refine x_then ?_
  refine wp_seq ?_
  refine wp_region_lit ?_
  refine ql (.int .u64 (v11 : Int)) (by kernel_rfl) (by kernel_rfl) ?_
  refine ql (.int .u64 (v11 : Int)) (by kernel_rfl) (by kernel_rfl) ?_
  obtain ⟨v12, hv12⟩ : ∃ z_ : Nat, z_ = v11 >>> 8 := ⟨_, rfl⟩
  have hbv12 : v12 ≤ v11 := by rw [hv12]; exact Nat.shiftRight_le _ _
  refine ql (.int .u64 (v12 : Int)) (by kernel_rfl) (by rw [hv12]; exact R_shrN (k2 := .u64) (m := v11) (k := 8) (by kernel_rfl) (by kernel_rfl) (by omega) (by omega)) ?_
  obtain ⟨v13, hv13⟩ : ∃ z_ : Nat, z_ = v11 + v12 := ⟨_, rfl⟩
  refine ql (.int .u64 (v13 : Int)) (by kernel_rfl) (by rw [hv13]; exact R_addN (m := v11) (k := v12) (by kernel_rfl) (by kernel_rfl) (by omega)) ?_
  refine ql (.int .u64 (v13 : Int)) (by kernel_rfl) (by kernel_rfl) ?_
  refine wpList_nil ?_
  refine x_then ?_
  refine wp_seq ?_
  refine wp_region_lit ?_
  refine ql (.int .u64 (v13 : Int)) (by kernel_rfl) (by kernel_rfl) ?_
  refine ql (.int .u64 (v13 : Int)) (by kernel_rfl) (by kernel_rfl) ?_
  obtain ⟨v14, hv14⟩ : ∃ z_ : Nat, z_ = v13 >>> 16 := ⟨_, rfl⟩
  have hbv14 : v14 ≤ v13 := by rw [hv14]; exact Nat.shiftRight_le _ _
  refine ql (.int .u64 (v14 : Int)) (by kernel_rfl) (by rw [hv14]; exact R_shrN (k2 := .u64) (m := v13) (k := 16) (by kernel_rfl) (by kernel_rfl) (by omega) (by omega)) ?_
  obtain ⟨v15, hv15⟩ : ∃ z_ : Nat, z_ = v13 + v14 := ⟨_, rfl⟩
  refine ql (.int .u64 (v15 : Int)) (by kernel_rfl) (by rw [hv15]; exact R_addN (m := v13) (k := v14) (by kernel_rfl) (by kernel_rfl) (by omega)) ?_
  refine ql (.int .u64 (v15 : Int)) (by kernel_rfl) (by kernel_rfl) ?_
  refine wpList_nil ?_
  refine x_then ?_
  refine wp_seq ?_
  refine wp_region_lit ?_
  refine ql (.int .u64 (v15 : Int)) (by kernel_rfl) (by kernel_rfl) ?_
  refine ql (.int .u64 (v15 : Int)) (by kernel_rfl) (by kernel_rfl) ?_
  obtain ⟨v16, hv16⟩ : ∃ z_ : Nat, z_ = v15 >>> 32 := ⟨_, rfl⟩
  have hbv16 : v16 ≤ v15 := by rw [hv16]; exact Nat.shiftRight_le _ _
  refine ql (.int .u64 (v16 : Int)) (by kernel_rfl) (by rw [hv16]; exact R_shrN (k2 := .u64) (m := v15) (k := 32) (by kernel_rfl) (by kernel_rfl) (by omega) (by omega)) ?_
  obtain ⟨v17, hv17⟩ : ∃ z_ : Nat, z_ = v15 + v16 := ⟨_, rfl⟩
  refine ql (.int .u64 (v17 : Int)) (by kernel_rfl) (by rw [hv17]; exact R_addN (m := v15) (k := v16) (by kernel_rfl) (by kernel_rfl) (by omega)) ?_
  refine ql (.int .u64 (v17 : Int)) (by kernel_rfl) (by kernel_rfl) ?_
  refine wpList_nil ?_
  refine x_then ?_
  refine wp_seq ?_
  refine wp_region_lit ?_
  refine ql (.int .u64 (v17 : Int)) (by kernel_rfl) (by kernel_rfl) ?_
  refine ql (.int .i64 (v17 : Int)) (by kernel_rfl) (R_int (by kernel_rfl) (w64 (by omega))) ?_
  refine ql (.int .i64 ((v17 : Int) % 128)) (by kernel_rfl) (R_and127 (by kernel_rfl) (by kernel_rfl) (by omega) (by omega)) ?_
  refine ql (.int .i64 ((v17 : Int) % 128)) (by kernel_rfl) (by kernel_rfl) ?_
  refine wpList_nil ?_
  refine x_then ?_
  refine wp_ret ?_
  refine ret_ (.int .i64 ((v17 : Int) % 128)) (by kernel_rfl) ?_
  have hX : (v17 : Int) % 128 = ((onesC x : Nat) : Int) := by unfold onesC; simp only [hv1, hv2, hv3, hv4, hv5, hv6, hv7, hv8, hv9, hv10, hv11, hv12, hv13, hv14, hv15, hv16, hv17]; rfl
  rw [onesC_eq hx] at hX
  exact ⟨by rw [hX], HS⟩

set_option maxRecDepth 100000 in
set_option maxHeartbeats 1000000 in
theorem dsize (g : Nat) (n : Int) (W : World) (hz1 : W.cell? ⟨g, 1, none⟩ = some (.int .i64 n)) : Calls Tryd.prog 22 #[.pointer (some ⟨g, 0, none⟩)] W fun e W' => e = .returned (.int .i64 n) ∧ St W (owns []) W' [] := by
  have HS : St W (owns []) W [] := St.start W _
  refine calls_enter [.pointer (some ⟨g, 0, none⟩), undef, undef, undef, undef, undef, undef, undef, undef] Tryd.func22 rfl (by kernel_rfl) ?_
  refine wp_seq ?_
  refine wp_region_lit ?_
  refine ql (.int .i64 0) (by kernel_rfl) (by kernel_rfl) ?_
  refine wpList_nil ?_
  refine x_then ?_
  refine wp_seq ?_
  refine wp_seq ?_
  refine wp_region_lit ?_
  refine ql (.pointer (some ⟨g, 0, none⟩)) (by kernel_rfl) (by kernel_rfl) ?_
  refine ql (.bool false) (by kernel_rfl) (by kernel_rfl) ?_
  refine wpList_nil ?_
  refine x_then ?_
  refine wp_cond_false (by kernel_rfl) ?_
  refine wp_skip ?_
  refine x_then ?_
  refine wp_seq ?_
  refine wp_region_lit ?_
  refine ql (.pointer (some ⟨g, 0, none⟩)) (by kernel_rfl) (by kernel_rfl) ?_
  refine ql (.pointer (some ⟨g, 0, none⟩)) (by kernel_rfl) (by kernel_rfl) ?_
  refine ql (.pointer (some ⟨g, 1, none⟩)) (by kernel_rfl) (by kernel_rfl) ?_
  refine ql (.int .i64 n) (by kernel_rfl) (R_load (p := ⟨g, 1, none⟩) (by kernel_rfl) (by kernel_rfl) (by kernel_rfl) (HS.old0 hz1)) ?_
  refine ql (.int .i64 n) (by kernel_rfl) (by kernel_rfl) ?_
  refine wpList_nil ?_
  refine x_then ?_
  refine wp_ret ?_
  refine ret_ (.int .i64 n) (by kernel_rfl) ?_
  exact ⟨rfl, HS⟩

set_option maxRecDepth 100000 in
set_option maxHeartbeats 1000000 in
theorem dsize_nil (W : World) : Calls Tryd.prog 22 #[.pointer none] W fun e W' => e = .returned (.int .i64 0) ∧ St W (owns []) W' [] := by
  have HS : St W (owns []) W [] := St.start W _
  refine calls_enter [.pointer none, undef, undef, undef, undef, undef, undef, undef, undef] Tryd.func22 rfl (by kernel_rfl) ?_
  refine wp_seq ?_
  refine wp_region_lit ?_
  refine ql (.int .i64 0) (by kernel_rfl) (by kernel_rfl) ?_
  refine wpList_nil ?_
  refine x_then ?_
  refine wp_seq ?_
  refine wp_seq ?_
  refine wp_region_lit ?_
  refine ql (.pointer none) (by kernel_rfl) (by kernel_rfl) ?_
  refine ql (.bool true) (by kernel_rfl) (by kernel_rfl) ?_
  refine wpList_nil ?_
  refine x_then ?_
  refine wp_cond_true (by kernel_rfl) ?_
  refine wp_seq ?_
  refine wp_region_lit ?_
  refine ql (.int .i64 0) (by kernel_rfl) (by kernel_rfl) ?_
  refine wpList_nil ?_
  refine x_then ?_
  refine wp_ret ?_
  refine x_thenR ?_
  refine ret_ (.int .i64 0) (by kernel_rfl) ?_
  exact ⟨rfl, HS⟩

set_option maxRecDepth 100000 in
set_option maxHeartbeats 1000000 in
theorem dis_t (g : Nat) (n i : Int) (W : World) (hz1 : W.cell? ⟨g, 1, none⟩ = some (.int .i64 n)) (h0 : 0 ≤ i) (h1 : i < n) : Calls Tryd.prog 25 #[.pointer (some ⟨g, 0, none⟩), .int .i64 i] W fun e W' => e = .returned (.bool true) ∧ St W (owns []) W' [] := by
  have HS : St W (owns []) W [] := St.start W _
  refine calls_enter [.pointer (some ⟨g, 0, none⟩), .int .i64 i, undef, undef, undef, undef, undef, undef, undef, undef, undef, undef, undef] Tryd.func25 rfl (by kernel_rfl) ?_
  refine wp_seq ?_
  refine wp_region_lit ?_
  refine ql (.bool false) (by kernel_rfl) (by kernel_rfl) ?_
  refine wpList_nil ?_
  refine x_then ?_
  refine wp_seq ?_
  refine wp_region_lit ?_
  refine ql (.int .i64 i) (by kernel_rfl) (by kernel_rfl) ?_
  by_cases hc1 : i ≥ (0 : Int)
  · skip
    refine ql (.bool true) (by kernel_rfl) (R_bool (p := i ≥ (0 : Int)) (by kernel_rfl) (hc1)) ?_
    refine ql (.bool true) (by kernel_rfl) (by kernel_rfl) ?_
    refine ql (.int .i64 i) (by kernel_rfl) (by kernel_rfl) ?_
    refine ql (.pointer (some ⟨g, 0, none⟩)) (by kernel_rfl) (by kernel_rfl) ?_
    refine qc (f := 22) (args := #[.pointer (some ⟨g, 0, none⟩)]) (by kernel_rfl) (R_call #[.pointer (some ⟨g, 0, none⟩)] Tryd.func22 (by kernel_rfl) (by kernel_rfl) (by kernel_rfl)) ?_
    refine (dsize _ _ _ (HS.old0 hz1)).mono ?_
    rintro e W2 ⟨rfl, H_⟩
    refine ⟨_, rfl, ?_⟩
    replace HS : St W (owns []) W2 [] := HS.join (F := []) (G := []) H_
    clear H_
    by_cases hc3 : i < n
    · skip
      refine ql (.bool true) (by kernel_rfl) (R_bool (p := i < n) (by kernel_rfl) (hc3)) ?_
      refine ql (.bool true) (by kernel_rfl) (by kernel_rfl) ?_
      refine ql (.bool true) (by kernel_rfl) (by kernel_rfl) ?_
      refine wpList_nil ?_
      refine x_then ?_
      refine wp_ret ?_
      refine ret_ (.bool true) (by kernel_rfl) ?_
      exact ⟨rfl, HS⟩
    · skip
      refine ql (.bool false) (by kernel_rfl) (R_nbool (p := i < n) (by kernel_rfl) (hc3)) ?_
      refine ql (.bool false) (by kernel_rfl) (by kernel_rfl) ?_
      refine ql (.bool false) (by kernel_rfl) (by kernel_rfl) ?_
      refine wpList_nil ?_
      refine x_then ?_
      refine wp_ret ?_
      refine ret_ (.bool false) (by kernel_rfl) ?_
      exfalso; omega
  · skip
    refine ql (.bool false) (by kernel_rfl) (R_nbool (p := i ≥ (0 : Int)) (by kernel_rfl) (hc1)) ?_
    refine ql (.bool false) (by kernel_rfl) (by kernel_rfl) ?_
    refine qln (by kernel_rfl) ?_
    refine qln (by kernel_rfl) ?_
    refine qln (by kernel_rfl) ?_
    refine qln (by kernel_rfl) ?_
    refine ql (.bool false) (by kernel_rfl) (by kernel_rfl) ?_
    refine ql (.bool false) (by kernel_rfl) (by kernel_rfl) ?_
    refine wpList_nil ?_
    refine x_then ?_
    refine wp_ret ?_
    refine ret_ (.bool false) (by kernel_rfl) ?_
    exfalso; omega

set_option maxRecDepth 100000 in
set_option maxHeartbeats 1000000 in
theorem dis_f (g : Nat) (n i : Int) (W : World) (hz1 : W.cell? ⟨g, 1, none⟩ = some (.int .i64 n)) (ho : i < 0 ∨ n ≤ i) : Calls Tryd.prog 25 #[.pointer (some ⟨g, 0, none⟩), .int .i64 i] W fun e W' => e = .returned (.bool false) ∧ St W (owns []) W' [] := by
  have HS : St W (owns []) W [] := St.start W _
  refine calls_enter [.pointer (some ⟨g, 0, none⟩), .int .i64 i, undef, undef, undef, undef, undef, undef, undef, undef, undef, undef, undef] Tryd.func25 rfl (by kernel_rfl) ?_
  refine wp_seq ?_
  refine wp_region_lit ?_
  refine ql (.bool false) (by kernel_rfl) (by kernel_rfl) ?_
  refine wpList_nil ?_
  refine x_then ?_
  refine wp_seq ?_
  refine wp_region_lit ?_
  refine ql (.int .i64 i) (by kernel_rfl) (by kernel_rfl) ?_
  by_cases hc1 : i ≥ (0 : Int)
  · skip
    refine ql (.bool true) (by kernel_rfl) (R_bool (p := i ≥ (0 : Int)) (by kernel_rfl) (hc1)) ?_
    refine ql (.bool true) (by kernel_rfl) (by kernel_rfl) ?_
    refine ql (.int .i64 i) (by kernel_rfl) (by kernel_rfl) ?_
    refine ql (.pointer (some ⟨g, 0, none⟩)) (by kernel_rfl) (by kernel_rfl) ?_
    refine qc (f := 22) (args := #[.pointer (some ⟨g, 0, none⟩)]) (by kernel_rfl) (R_call #[.pointer (some ⟨g, 0, none⟩)] Tryd.func22 (by kernel_rfl) (by kernel_rfl) (by kernel_rfl)) ?_
    refine (dsize _ _ _ (HS.old0 hz1)).mono ?_
    rintro e W2 ⟨rfl, H_⟩
    refine ⟨_, rfl, ?_⟩
    replace HS : St W (owns []) W2 [] := HS.join (F := []) (G := []) H_
    clear H_
    by_cases hc3 : i < n
    · skip
      refine ql (.bool true) (by kernel_rfl) (R_bool (p := i < n) (by kernel_rfl) (hc3)) ?_
      refine ql (.bool true) (by kernel_rfl) (by kernel_rfl) ?_
      refine ql (.bool true) (by kernel_rfl) (by kernel_rfl) ?_
      refine wpList_nil ?_
      refine x_then ?_
      refine wp_ret ?_
      refine ret_ (.bool true) (by kernel_rfl) ?_
      exfalso; omega
    · skip
      refine ql (.bool false) (by kernel_rfl) (R_nbool (p := i < n) (by kernel_rfl) (hc3)) ?_
      refine ql (.bool false) (by kernel_rfl) (by kernel_rfl) ?_
      refine ql (.bool false) (by kernel_rfl) (by kernel_rfl) ?_
      refine wpList_nil ?_
      refine x_then ?_
      refine wp_ret ?_
      refine ret_ (.bool false) (by kernel_rfl) ?_
      exact ⟨rfl, HS⟩
  · skip
    refine ql (.bool false) (by kernel_rfl) (R_nbool (p := i ≥ (0 : Int)) (by kernel_rfl) (hc1)) ?_
    refine ql (.bool false) (by kernel_rfl) (by kernel_rfl) ?_
    refine qln (by kernel_rfl) ?_
    refine qln (by kernel_rfl) ?_
    refine qln (by kernel_rfl) ?_
    refine qln (by kernel_rfl) ?_
    refine ql (.bool false) (by kernel_rfl) (by kernel_rfl) ?_
    refine ql (.bool false) (by kernel_rfl) (by kernel_rfl) ?_
    refine wpList_nil ?_
    refine x_then ?_
    refine wp_ret ?_
    refine ret_ (.bool false) (by kernel_rfl) ?_
    exact ⟨rfl, HS⟩

set_option maxRecDepth 100000 in
set_option maxHeartbeats 1000000 in
theorem dis_nil (i : Int) (W : World) : Calls Tryd.prog 25 #[.pointer none, .int .i64 i] W fun e W' => e = .returned (.bool false) ∧ St W (owns []) W' [] := by
  have HS : St W (owns []) W [] := St.start W _
  refine calls_enter [.pointer none, .int .i64 i, undef, undef, undef, undef, undef, undef, undef, undef, undef, undef, undef] Tryd.func25 rfl (by kernel_rfl) ?_
  refine wp_seq ?_
  refine wp_region_lit ?_
  refine ql (.bool false) (by kernel_rfl) (by kernel_rfl) ?_
  refine wpList_nil ?_
  refine x_then ?_
  refine wp_seq ?_
  refine wp_region_lit ?_
  refine ql (.int .i64 i) (by kernel_rfl) (by kernel_rfl) ?_
  by_cases hc1 : i ≥ (0 : Int)
  · skip
    refine ql (.bool true) (by kernel_rfl) (R_bool (p := i ≥ (0 : Int)) (by kernel_rfl) (hc1)) ?_
    refine ql (.bool true) (by kernel_rfl) (by kernel_rfl) ?_
    refine ql (.int .i64 i) (by kernel_rfl) (by kernel_rfl) ?_
    refine ql (.pointer none) (by kernel_rfl) (by kernel_rfl) ?_
    refine qc (f := 22) (args := #[.pointer none]) (by kernel_rfl) (R_call #[.pointer none] Tryd.func22 (by kernel_rfl) (by kernel_rfl) (by kernel_rfl)) ?_
    refine (dsize_nil _).mono ?_
    rintro e W2 ⟨rfl, H_⟩
    refine ⟨_, rfl, ?_⟩
    replace HS : St W (owns []) W2 [] := HS.join (F := []) (G := []) H_
    clear H_
    by_cases hc3 : i < (0 : Int)
    · skip
      refine ql (.bool true) (by kernel_rfl) (R_bool (p := i < (0 : Int)) (by kernel_rfl) (hc3)) ?_
      refine ql (.bool true) (by kernel_rfl) (by kernel_rfl) ?_
      refine ql (.bool true) (by kernel_rfl) (by kernel_rfl) ?_
      refine wpList_nil ?_
      refine x_then ?_
      refine wp_ret ?_
      refine ret_ (.bool true) (by kernel_rfl) ?_
      exfalso; omega
    · skip
      refine ql (.bool false) (by kernel_rfl) (R_nbool (p := i < (0 : Int)) (by kernel_rfl) (hc3)) ?_
      refine ql (.bool false) (by kernel_rfl) (by kernel_rfl) ?_
      refine ql (.bool false) (by kernel_rfl) (by kernel_rfl) ?_
      refine wpList_nil ?_
      refine x_then ?_
      refine wp_ret ?_
      refine ret_ (.bool false) (by kernel_rfl) ?_
      exact ⟨rfl, HS⟩
  · skip
    refine ql (.bool false) (by kernel_rfl) (R_nbool (p := i ≥ (0 : Int)) (by kernel_rfl) (hc1)) ?_
    refine ql (.bool false) (by kernel_rfl) (by kernel_rfl) ?_
    refine qln (by kernel_rfl) ?_
    refine qln (by kernel_rfl) ?_
    refine qln (by kernel_rfl) ?_
    refine qln (by kernel_rfl) ?_
    refine ql (.bool false) (by kernel_rfl) (by kernel_rfl) ?_
    refine ql (.bool false) (by kernel_rfl) (by kernel_rfl) ?_
    refine wpList_nil ?_
    refine x_then ?_
    refine wp_ret ?_
    refine ret_ (.bool false) (by kernel_rfl) ?_
    exact ⟨rfl, HS⟩

set_option maxRecDepth 100000 in
set_option maxHeartbeats 1000000 in
theorem dhas_f (g c : Nat) (A : Option Addr) (ws : List Int) (n : Int) (L : List Int) (i : Int) (W : World) (hz0 : W.cell? ⟨g, 0, none⟩ = some (.slice A ws.length c)) (hz1 : W.cell? ⟨g, 1, none⟩ = some (.int .i64 n)) (hr : Rd W A (ci .u64 ws)) (hR : Rep ws n L) (hn : n ≤ 1048576) (h0 : 0 ≤ i) (h1 : i < n) (hi : i ∉ L) : Calls Tryd.prog 15 #[.pointer (some ⟨g, 0, none⟩), .int .i64 i] W fun e W' => e = .returned (.bool false) ∧ St W (owns []) W' [] := by
  have HS : St W (owns []) W [] := St.start W _
  have hix := hR.idx h0 h1
  refine calls_enter [.pointer (some ⟨g, 0, none⟩), .int .i64 i, undef, undef, undef, undef, undef, undef, undef, undef, undef, undef, undef, undef, undef, undef, undef, undef, undef, undef, undef, undef, undef] Tryd.func15 rfl (by kernel_rfl) ?_
  refine wp_seq ?_
  refine wp_region_lit ?_
  refine ql (.bool false) (by kernel_rfl) (by kernel_rfl) ?_
  refine wpList_nil ?_
  refine x_then ?_
  refine wp_seq ?_
  refine wp_region_lit ?_
  refine ql (.pointer (some ⟨g, 0, none⟩)) (by kernel_rfl) (by kernel_rfl) ?_
  refine ql (.int .i64 i) (by kernel_rfl) (by kernel_rfl) ?_
  refine qc (f := 25) (args := #[.pointer (some ⟨g, 0, none⟩), .int .i64 i]) (by kernel_rfl) (R_call #[.pointer (some ⟨g, 0, none⟩), .int .i64 i] Tryd.func25 (by kernel_rfl) (by kernel_rfl) (by kernel_rfl)) ?_
  refine (dis_t _ _ i _ (HS.old0 hz1) h0 h1).mono ?_
  rintro e W1 ⟨rfl, H_⟩
  refine ⟨_, rfl, ?_⟩
  replace HS : St W (owns []) W1 [] := HS.join (F := []) (G := []) H_
  clear H_
  refine ql (.bool true) (by kernel_rfl) (by kernel_rfl) ?_
  refine ql (.pointer (some ⟨g, 0, none⟩)) (by kernel_rfl) (by kernel_rfl) ?_
  refine ql (.pointer (some ⟨g, 0, none⟩)) (by kernel_rfl) (by kernel_rfl) ?_
  refine ql (.pointer (some ⟨g, 0, none⟩)) (by kernel_rfl) (by kernel_rfl) ?_
  refine ql (.slice A ws.length c) (by kernel_rfl) (R_load (p := ⟨g, 0, none⟩) (by kernel_rfl) (by kernel_rfl) (by kernel_rfl) (HS.old0 hz0)) ?_
  refine ql (.int .i64 i) (by kernel_rfl) (by kernel_rfl) ?_
  refine ql (.int .i64 (i / 64)) (by kernel_rfl) (R_quo (by kernel_rfl) (by kernel_rfl) (by omega) (by omega) (by decide)) ?_
  obtain ⟨ad2, rfl⟩ := Rd.isSome_ hr (by rw [ci_len]; omega)
  refine ql (.pointer (some (ad2.add (i / 64).toNat))) (by kernel_rfl) (R_indexA1 (k := .i64) (p := ad2) (n := ws.length) (c := c) (i := i / 64) (by kernel_rfl) (by kernel_rfl) Tryd.underlying51 (by kernel_rfl) (by omega) (by omega)) ?_
  refine ql (.int .u64 (rdI ws (i / 64))) (by kernel_rfl) (R_load (p := ad2.add (i / 64).toNat) (by kernel_rfl) (by kernel_rfl) (by kernel_rfl) (HS.old0 (hr.at_ (ci_rd (i := i / 64) (by omega) (by omega))))) ?_
  refine ql (.int .i64 i) (by kernel_rfl) (by kernel_rfl) ?_
  refine ql (.int .i64 (i % 64)) (by kernel_rfl) (R_rem2 (by kernel_rfl) (by kernel_rfl) (by omega) (by omega) (by decide)) ?_
  refine ql (.int .u64 (shrW (rdI ws (i / 64)) (i % 64))) (by kernel_rfl) (R_shr (k2 := .i64) (by kernel_rfl) (by kernel_rfl) (hR.rd_at h0 h1) (by omega) (by omega)) ?_
  refine ql (.int .u64 (andW (shrW (rdI ws (i / 64)) (i % 64)) 1)) (by kernel_rfl) (R_and (by kernel_rfl) (by kernel_rfl) (u_shr (hR.rd_at h0 h1)) (u_lit 1 (by decide))) ?_
  refine ql (.bool false) (by kernel_rfl) (R_beq (b := (andW (shrW (rdI ws (i / 64)) (i % 64)) 1 == (1 : Int))) (by kernel_rfl) (beq_f (hR.has_f h0 h1 hi))) ?_
  refine ql (.bool false) (by kernel_rfl) (by kernel_rfl) ?_
  refine ql (.bool false) (by kernel_rfl) (by kernel_rfl) ?_
  refine wpList_nil ?_
  refine x_then ?_
  refine wp_ret ?_
  refine ret_ (.bool false) (by kernel_rfl) ?_
  exact ⟨rfl, HS⟩

set_option maxRecDepth 100000 in
set_option maxHeartbeats 1000000 in
theorem dhas_nil (i : Int) (W : World) : Calls Tryd.prog 15 #[.pointer none, .int .i64 i] W fun e W' => e = .returned (.bool false) ∧ St W (owns []) W' [] := by
  have HS : St W (owns []) W [] := St.start W _
  refine calls_enter [.pointer none, .int .i64 i, undef, undef, undef, undef, undef, undef, undef, undef, undef, undef, undef, undef, undef, undef, undef, undef, undef, undef, undef, undef, undef] Tryd.func15 rfl (by kernel_rfl) ?_
  refine wp_seq ?_
  refine wp_region_lit ?_
  refine ql (.bool false) (by kernel_rfl) (by kernel_rfl) ?_
  refine wpList_nil ?_
  refine x_then ?_
  refine wp_seq ?_
  refine wp_region_lit ?_
  refine ql (.pointer none) (by kernel_rfl) (by kernel_rfl) ?_
  refine ql (.int .i64 i) (by kernel_rfl) (by kernel_rfl) ?_
  refine qc (f := 25) (args := #[.pointer none, .int .i64 i]) (by kernel_rfl) (R_call #[.pointer none, .int .i64 i] Tryd.func25 (by kernel_rfl) (by kernel_rfl) (by kernel_rfl)) ?_
  refine (dis_nil _ _).mono ?_
  rintro e W1 ⟨rfl, H_⟩
  refine ⟨_, rfl, ?_⟩
  replace HS : St W (owns []) W1 [] := HS.join (F := []) (G := []) H_
  clear H_
  refine ql (.bool false) (by kernel_rfl) (by kernel_rfl) ?_
  refine qln (by kernel_rfl) ?_
  refine qln (by kernel_rfl) ?_
  refine qln (by kernel_rfl) ?_
  refine qln (by kernel_rfl) ?_
  refine qln (by kernel_rfl) ?_
  refine qln (by kernel_rfl) ?_
  refine qln (by kernel_rfl) ?_
  refine qln (by kernel_rfl) ?_
  refine qln (by kernel_rfl) ?_
  refine qln (by kernel_rfl) ?_
  refine qln (by kernel_rfl) ?_
  refine qln (by kernel_rfl) ?_
  refine qln (by kernel_rfl) ?_
  refine ql (.bool false) (by kernel_rfl) (by kernel_rfl) ?_
  refine ql (.bool false) (by kernel_rfl) (by kernel_rfl) ?_
  refine wpList_nil ?_
  refine x_then ?_
  refine wp_ret ?_
  refine ret_ (.bool false) (by kernel_rfl) ?_
  exact ⟨rfl, HS⟩


def TabAt64 (W : World) : Prop := ∀ j, j < 64 → W.cell? ⟨0, j, none⟩ = some (.int .u8 ((Lib.deBruijn64tab.getD j 0 : Nat) : Int))

set_option maxRecDepth 100000 in
set_option maxHeartbeats 1000000 in
theorem tz64 (x : Nat) (W : World) (hx : x < 18446744073709551616) (h0 : x ≠ 0) (hT : TabAt64 W) : Calls Tryd.prog 35 #[.int .u64 (x : Int)] W fun e W' => e = .returned (.int .i64 ((Lib.ctz 64 x : Nat) : Int)) ∧ St W (owns []) W' [] := by
  have HS : St W (owns []) W [] := St.start W _
  obtain ⟨hlow, hk⟩ := Lib.lowest_bit 64 x h0 hx
  obtain ⟨hi, htab⟩ := Lib.deBruijn64_at _ hk
  have hcell := hT _ hi
  rw [htab] at hcell
  refine calls_enter [.int .u64 (x : Int), undef, undef, undef, undef, undef, undef, undef, undef, undef, undef, undef, undef, undef] Tryd.func35 rfl (by kernel_rfl) ?_
  refine wp_seq ?_
  refine wp_region_lit ?_
  refine ql (.int .i64 0) (by kernel_rfl) (by kernel_rfl) ?_
  refine wpList_nil ?_
  refine x_then ?_
  refine wp_seq ?_
  refine wp_seq ?_
  refine wp_region_lit ?_
  refine ql (.int .u64 (x : Int)) (by kernel_rfl) (by kernel_rfl) ?_
  refine ql (.bool false) (by kernel_rfl) (R_beq (b := ((x : Int) == (0 : Int))) (by kernel_rfl) (beq_f (by omega))) ?_
  refine wpList_nil ?_
  refine x_then ?_
  refine wp_cond_false (by kernel_rfl) ?_
  refine wp_skip ?_
  refine x_then ?_
  refine wp_seq ?_
  refine wp_region_lit ?_
  refine ql (.int .u64 (x : Int)) (by kernel_rfl) (by kernel_rfl) ?_
  refine ql (.int .u64 (x : Int)) (by kernel_rfl) (by kernel_rfl) ?_
  refine ql (.int .u64 ((18446744073709551616 - x : Nat) : Int)) (by kernel_rfl) (R_negN (m := x) (by kernel_rfl) h0 hx) ?_
  refine ql (.int .u64 ((2 ^ Lib.ctz 64 x : Nat) : Int)) (by kernel_rfl) (by rw [← hlow]; exact R_andN (m := x) (k := 18446744073709551616 - x) (by kernel_rfl) (by kernel_rfl) hx (by omega)) ?_
  refine ql (.int .u64 ((2 ^ Lib.ctz 64 x * 285870213051353865 % 18446744073709551616 : Nat) : Int)) (by kernel_rfl) (R_mulN (m := 2 ^ Lib.ctz 64 x) (k := 285870213051353865) (by kernel_rfl) (by kernel_rfl)) ?_
  refine ql (.int .u64 (((2 ^ Lib.ctz 64 x * 285870213051353865 % 18446744073709551616 / 288230376151711744) : Nat) : Int)) (by kernel_rfl) (by have h9 := R_shrN (P := Tryd.prog) (W := W) (m := 2 ^ Lib.ctz 64 x * 285870213051353865 % 18446744073709551616) (k := 58) (k2 := .u64) (dst := some 10) (t := 54) (x := (Go.Operand.tmp 9)) (y := (Go.Operand.const (Go.Value.int Go.IntKind.u64 58))) (t2 := 64) (ty := 54) (ps := "bits.go:105") (af := #[{ on := 4, ground := Go.Ground.data }]) (gd := none) (a := Fr [.int .u64 (x : Int), undef, .int .i64 0, .int .u64 (x : Int), .bool false, .int .u64 (x : Int), .int .u64 (x : Int), .int .u64 ((18446744073709551616 - x : Nat) : Int), .int .u64 ((2 ^ Lib.ctz 64 x : Nat) : Int), .int .u64 ((2 ^ Lib.ctz 64 x * 285870213051353865 % 18446744073709551616 : Nat) : Int), undef, undef, undef, undef]) (by kernel_rfl) (by kernel_rfl) (Nat.mod_lt _ (by decide)) (by decide); rw [Nat.shiftRight_eq_div_pow] at h9; exact h9) ?_
  refine ql (.pointer (some ⟨0, (2 ^ Lib.ctz 64 x * 285870213051353865 % 18446744073709551616 / 288230376151711744), none⟩)) (by kernel_rfl) (R_idxArr (g := 0) (m := (2 ^ Lib.ctz 64 x * 285870213051353865 % 18446744073709551616 / 288230376151711744)) (k := .u64) (by kernel_rfl) (by kernel_rfl) Tryd.underlying65 (by kernel_rfl) hi) ?_
  refine ql (.int .u8 ((Lib.ctz 64 x : Nat) : Int)) (by kernel_rfl) (R_load (p := ⟨0, (2 ^ Lib.ctz 64 x * 285870213051353865 % 18446744073709551616 / 288230376151711744), none⟩) (by kernel_rfl) (by kernel_rfl) (by kernel_rfl) (HS.old0 hcell)) ?_
  refine ql (.int .i64 ((Lib.ctz 64 x : Nat) : Int)) (by kernel_rfl) (R_int (by kernel_rfl) (w64 (by omega))) ?_
  refine ql (.int .i64 ((Lib.ctz 64 x : Nat) : Int)) (by kernel_rfl) (by kernel_rfl) ?_
  refine wpList_nil ?_
  refine x_then ?_
  refine wp_ret ?_
  refine ret_ (.int .i64 ((Lib.ctz 64 x : Nat) : Int)) (by kernel_rfl) ?_
  exact ⟨rfl, HS⟩


theorem rep_zero {n : Int} {k : Nat} (h0 : 0 ≤ n) (hk : (k : Int) = (n + 63) / 64) : Rep (List.replicate k 0) n [] := by
  refine ⟨by rw [List.length_replicate]; exact hk, h0, fun w hw => ?_, fun i h0 h1 => ?_, List.Pairwise.nil, fun x hx => by simp at hx⟩
  · obtain ⟨_, rfl⟩ := List.mem_replicate.1 hw
    exact u_lit 0 (by decide)
  · have e : rdI (List.replicate k 0) (i / 64) = 0 := by
      unfold rdI
      rw [List.getD_eq_getElem?_getD, List.getElem?_replicate]
      split <;> rfl
    unfold bitI tb
    rw [e, show (0 : Int).toNat = 0 from rfl, Nat.zero_testBit]
    simp

set_option maxRecDepth 100000 in
set_option maxHeartbeats 1000000 in
theorem dnew_ok (n : Int) (W : World) (h0 : 0 ≤ n) (h1 : n ≤ 1048576) : Calls Tryd.prog 7 #[.int .i64 n] W fun e W' => ∃ g a c ws, e = .returned (.tuple #[.pointer (some ⟨g, 0, none⟩), .int .i64 0]) ∧ St W (owns []) W' [blk g [.slice (some ⟨a, 0, none⟩) ws.length c, .int .i64 n] 53, row (some ⟨a, 0, none⟩) ws.length c (ci .u64 ws) 54 1] ∧ Rep ws n [] := by
  have HS : St W (owns []) W [] := St.start W _
  refine calls_enter [.int .i64 n, undef, undef, undef, undef, undef, undef, undef, undef, undef, undef, undef, undef, undef, undef, undef, undef, undef] Tryd.func7 rfl (by kernel_rfl) ?_
  refine wp_seq ?_
  refine wp_region_lit ?_
  refine ql (.pointer none) (by kernel_rfl) (by kernel_rfl) ?_
  refine ql (.int .i64 0) (by kernel_rfl) (by kernel_rfl) ?_
  refine wpList_nil ?_
  refine x_then ?_
  refine wp_seq ?_
  refine wp_block ?_
  refine wp_seq ?_
  refine wp_region_lit ?_
  refine ql (.int .i64 n) (by kernel_rfl) (by kernel_rfl) ?_
  refine ql (.bool false) (by kernel_rfl) (R_nbool (p := n < (0 : Int)) (by kernel_rfl) (by omega)) ?_
  refine ql (.bool false) (by kernel_rfl) (by kernel_rfl) ?_
  refine wpList_nil ?_
  refine x_then ?_
  refine wp_cond_false (by kernel_rfl) ?_
  refine wp_seq ?_
  refine wp_region_lit ?_
  refine ql (.int .i64 n) (by kernel_rfl) (by kernel_rfl) ?_
  refine ql (.bool false) (by kernel_rfl) (R_nbool (p := n > (1048576 : Int)) (by kernel_rfl) (by omega)) ?_
  refine ql (.bool false) (by kernel_rfl) (by kernel_rfl) ?_
  refine wpList_nil ?_
  refine x_then ?_
  refine wp_cond_false (by kernel_rfl) ?_
  refine wp_skip ?_
  refine x_inb ?_
  refine x_then ?_
  refine wp_seq ?_
  refine wp_region_lit ?_
  refine ql (.int .i64 n) (by kernel_rfl) (by kernel_rfl) ?_
  refine ql (.int .i64 (n + 64)) (by kernel_rfl) (R_int (by kernel_rfl) (w64 (by omega))) ?_
  refine ql (.int .i64 ((n + 64) - 1)) (by kernel_rfl) (R_int (by kernel_rfl) (w64 (by omega))) ?_
  refine ql (.int .i64 (((n + 64) - 1) / 64)) (by kernel_rfl) (R_quo (by kernel_rfl) (by kernel_rfl) (by omega) (by omega) (by decide)) ?_
  refine km HS ((((n + 64) - 1) / 64).toNat) [.int .u64 0] 8 (by kernel_rfl) (k_eq (k := .i64) (m := ((n + 64) - 1) / 64) (by kernel_rfl) (by omega)) (k_eq (k := .i64) (m := ((n + 64) - 1) / 64) (by kernel_rfl) (by omega)) Tryd.underlying51 (by kernel_rfl) (by kernel_rfl) (by kernel_rfl) (by decide) (by omega) (by omega) ?_
  intro g1 W2 H_
  replace HS : St W (owns []) W2 [row (some ⟨g1, 0, none⟩) ((((n + 64) - 1) / 64).toNat) ((((n + 64) - 1) / 64).toNat) (ci .u64 (List.replicate ((((n + 64) - 1) / 64).toNat) 0)) 54 1] := H_.cast_ (by rw [ci_rep]; rfl)
  clear H_
  have rlg1 : (List.replicate ((((n + 64) - 1) / 64).toNat) (0 : Int)).length = (((n + 64) - 1) / 64).toNat := List.length_replicate
  refine ql (.int .i64 n) (by kernel_rfl) (by kernel_rfl) ?_
  refine ql (.agg #[.slice (some ⟨g1, 0, none⟩) ((((n + 64) - 1) / 64).toNat) ((((n + 64) - 1) / 64).toNat), .int .i64 n]) (by kernel_rfl) (by kernel_rfl) ?_
  refine kb HS [.slice (some ⟨g1, 0, none⟩) ((((n + 64) - 1) / 64).toNat) ((((n + 64) - 1) / 64).toNat), .int .i64 n] 53 (fun g => .pointer (some ⟨g, 0, none⟩)) (by kernel_rfl) (by kernel_rfl) ?_
  intro g3 W4 H_
  replace HS : St W (owns []) W4 [blk g3 [.slice (some ⟨g1, 0, none⟩) ((((n + 64) - 1) / 64).toNat) ((((n + 64) - 1) / 64).toNat), .int .i64 n] 53, row (some ⟨g1, 0, none⟩) ((((n + 64) - 1) / 64).toNat) ((((n + 64) - 1) / 64).toNat) (ci .u64 (List.replicate ((((n + 64) - 1) / 64).toNat) 0)) 54 1] := H_
  clear H_
  refine ql (.pointer (some ⟨g3, 0, none⟩)) (by kernel_rfl) (by kernel_rfl) ?_
  refine ql (.int .i64 0) (by kernel_rfl) (by kernel_rfl) ?_
  refine wpList_nil ?_
  refine x_then ?_
  refine wp_ret ?_
  refine ret_ (.tuple #[.pointer (some ⟨g3, 0, none⟩), .int .i64 0]) (by kernel_rfl) ?_
  obtain ⟨ws, hws⟩ : ∃ z_ : List Int, z_ = List.replicate ((((n + 64) - 1) / 64).toNat) 0 := ⟨_, rfl⟩
  have hR : Rep ws n [] := by rw [hws]; exact rep_zero h0 (by omega)
  have hl : ((((n + 64) - 1) / 64).toNat) = ws.length := by rw [hws, List.length_replicate]
  rw [← hws] at HS
  rw [hl] at HS
  exact ⟨_, _, _, ws, by first | rfl | (rw [hl]), HS, hR⟩

set_option maxRecDepth 100000 in
set_option maxHeartbeats 1000000 in
theorem dadd_new (g c : Nat) (A : Option Addr) (ws : List Int) (n : Int) (L : List Int) (i : Int) (W : World) (M : Nat → Prop) (HS : St W M W [blk g [.slice A ws.length c, .int .i64 n] 53, row A ws.length c (ci .u64 ws) 54 1]) (hR : Rep ws n L) (hn : n ≤ 1048576) (h0 : 0 ≤ i) (h1 : i < n) (hi : i ∉ L) : Calls Tryd.prog 8 #[.pointer (some ⟨g, 0, none⟩), .int .i64 i] W fun e W' => ∃ ws', e = .returned (.bool true) ∧ St W M W' [blk g [.slice A ws'.length c, .int .i64 n] 53, row A ws'.length c (ci .u64 ws') 54 1] ∧ Rep ws' n (ins i L) := by
  have hix := hR.idx h0 h1
  refine calls_enter [.pointer (some ⟨g, 0, none⟩), .int .i64 i, undef, undef, undef, undef, undef, undef, undef, undef, undef, undef, undef, undef, undef, undef, undef, undef, undef, undef, undef, undef, undef, undef, undef, undef, undef] Tryd.func8 rfl (by kernel_rfl) ?_
  refine wp_seq ?_
  refine wp_region_lit ?_
  refine ql (.bool false) (by kernel_rfl) (by kernel_rfl) ?_
  refine wpList_nil ?_
  refine x_then ?_
  refine wp_seq ?_
  refine wp_seq ?_
  refine wp_region_lit ?_
  refine ql (.pointer (some ⟨g, 0, none⟩)) (by kernel_rfl) (by kernel_rfl) ?_
  refine ql (.int .i64 i) (by kernel_rfl) (by kernel_rfl) ?_
  refine qc (f := 25) (args := #[.pointer (some ⟨g, 0, none⟩), .int .i64 i]) (by kernel_rfl) (R_call #[.pointer (some ⟨g, 0, none⟩), .int .i64 i] Tryd.func25 (by kernel_rfl) (by kernel_rfl) (by kernel_rfl)) ?_
  refine (dis_t _ _ i _ (HS.cell (i := 0) (j := 1) rfl rfl) h0 h1).mono ?_
  rintro e W1 ⟨rfl, H_⟩
  refine ⟨_, rfl, ?_⟩
  replace HS : St W M W1 [blk g [.slice A ws.length c, .int .i64 n] 53, row A ws.length c (ci .u64 ws) 54 1] := HS.join (F := []) (G := []) H_
  clear H_
  refine ql (.bool false) (by kernel_rfl) (by kernel_rfl) ?_
  refine ql (.bool false) (by kernel_rfl) (by kernel_rfl) ?_
  refine ql (.pointer (some ⟨g, 0, none⟩)) (by kernel_rfl) (by kernel_rfl) ?_
  refine ql (.int .i64 i) (by kernel_rfl) (by kernel_rfl) ?_
  refine qc (f := 15) (args := #[.pointer (some ⟨g, 0, none⟩), .int .i64 i]) (by kernel_rfl) (R_call #[.pointer (some ⟨g, 0, none⟩), .int .i64 i] Tryd.func15 (by kernel_rfl) (by kernel_rfl) (by kernel_rfl)) ?_
  refine (dhas_f g c A ws n L i _ (HS.cell (i := 0) (j := 0) rfl rfl) (HS.cell (i := 0) (j := 1) rfl rfl) (Rd.row HS (i := 1) rfl) hR hn h0 h1 hi).mono ?_
  rintro e W2 ⟨rfl, H_⟩
  refine ⟨_, rfl, ?_⟩
  replace HS : St W M W2 [blk g [.slice A ws.length c, .int .i64 n] 53, row A ws.length c (ci .u64 ws) 54 1] := HS.join (F := []) (G := []) H_
  clear H_
  refine ql (.bool false) (by kernel_rfl) (by kernel_rfl) ?_
  refine wpList_nil ?_
  refine x_then ?_
  refine wp_cond_false (by kernel_rfl) ?_
  refine wp_skip ?_
  refine x_then ?_
  refine wp_seq ?_
  refine rg_still HS 13 (by kernel_rfl) (by kernel_rfl) ?_
  intro W3 H_ HK_
  simp only [List.take_succ_cons, List.take_zero, List.drop_succ_cons, List.drop_zero]
  replace HS : St W M W3 [blk g [.slice A ws.length c, .int .i64 n] 53, row A ws.length c (ci .u64 ws) 54 1] := H_
  clear H_
  clear HK_
  refine qs (.pointer (some ⟨g, 0, none⟩)) (by kernel_rfl) (by kernel_rfl) ?_
  refine qs (.pointer (some ⟨g, 0, none⟩)) (by kernel_rfl) (by kernel_rfl) ?_
  refine qs (.pointer (some ⟨g, 0, none⟩)) (by kernel_rfl) (by kernel_rfl) ?_
  refine qs (.slice A ws.length c) (by kernel_rfl) (R_load (p := ⟨g, 0, none⟩) (by kernel_rfl) (by kernel_rfl) (by kernel_rfl) (HS.cell (i := 0) (j := 0) rfl rfl)) ?_
  refine qs (.int .i64 i) (by kernel_rfl) (by kernel_rfl) ?_
  refine qs (.int .i64 (i / 64)) (by kernel_rfl) (R_quo (by kernel_rfl) (by kernel_rfl) (by omega) (by omega) (by decide)) ?_
  obtain ⟨g4, rfl⟩ := St.rsome HS (i := 1) rfl (by omega)
  refine qs (.pointer (some ⟨g4, (i / 64).toNat, none⟩)) (by kernel_rfl) (R_index1 (k := .i64) (g := g4) (n := ws.length) (c := c) (i := i / 64) (by kernel_rfl) (by kernel_rfl) Tryd.underlying51 (by kernel_rfl) (by omega) (by omega)) ?_
  refine qs (.int .u64 (rdI ws (i / 64))) (by kernel_rfl) (R_load (p := ⟨g4, (i / 64).toNat, none⟩) (by kernel_rfl) (by kernel_rfl) (by kernel_rfl) (HS.rcell (i := 1) rfl (ci_rd (i := i / 64) (by omega) (by omega)))) ?_
  refine qs (.int .i64 i) (by kernel_rfl) (by kernel_rfl) ?_
  refine qs (.int .i64 (i % 64)) (by kernel_rfl) (R_rem2 (by kernel_rfl) (by kernel_rfl) (by omega) (by omega) (by decide)) ?_
  refine qs (.int .u64 (shlW 1 (i % 64))) (by kernel_rfl) (R_shl (k2 := .i64) (by kernel_rfl) (by kernel_rfl) (u_lit 1 (by decide)) (by omega) (by omega)) ?_
  refine qs (.int .u64 (orW (rdI ws (i / 64)) (shlW 1 (i % 64)))) (by kernel_rfl) (R_or (by kernel_rfl) (by kernel_rfl) (hR.rd_at h0 h1) u_shl) ?_
  refine qs (.pointer (some ⟨g4, (i / 64).toNat, none⟩)) (by kernel_rfl) (R_index1 (k := .i64) (g := g4) (n := ws.length) (c := c) (i := i / 64) (by kernel_rfl) (by kernel_rfl) Tryd.underlying51 (by kernel_rfl) (by omega) (by omega)) ?_
  refine wpStill_nil ?_
  refine kr (v := .int .u64 (orW (rdI ws (i / 64)) (shlW 1 (i % 64)))) HS 1 rfl ((i / 64).toNat) [.int .u64 (orW (rdI ws (i / 64)) (shlW 1 (i % 64)))] (by kernel_rfl) (by kernel_rfl) (by kernel_rfl) (by kernel_rfl) (by kernel_rfl) (one_ (by kernel_rfl)) (by rw [ci_len]; first | omega | (simp only [List.length_singleton]; omega)) rfl ?_
  intro W5 H_
  obtain ⟨xs6, xs6_⟩ : ∃ z_ : List Int, z_ = (ws).set (i / 64).toNat (orW (rdI ws (i / 64)) (shlW 1 (i % 64))) := ⟨_, rfl⟩
  replace HS : St W M W5 [blk g [.slice (some ⟨g4, 0, none⟩) ws.length c, .int .i64 n] 53, row (some ⟨g4, 0, none⟩) ws.length c (ci .u64 xs6) 54 1] := H_.cast_ (by rw [xs6_, ← ci_set]; rfl)
  clear H_
  have xs6l : xs6.length = ws.length := by rw [xs6_, List.length_set]; first | done | omega
  refine wpList_nil ?_
  refine x_then ?_
  refine wp_seq ?_
  refine wp_region_lit ?_
  refine ql (.bool true) (by kernel_rfl) (by kernel_rfl) ?_
  refine wpList_nil ?_
  refine x_then ?_
  refine wp_ret ?_
  refine ret_ (.bool true) (by kernel_rfl) ?_
  have hq : Rep xs6 n (ins i L) := by rw [xs6_]; exact hR.add h0 h1 hi
  rw [← xs6l] at HS
  exact ⟨xs6, rfl, HS, hq⟩

set_option maxRecDepth 100000 in
set_option maxHeartbeats 1000000 in
theorem dadd_out (g c : Nat) (A : Option Addr) (ws : List Int) (n : Int) (L : List Int) (i : Int) (W : World) (M : Nat → Prop) (HS : St W M W [blk g [.slice A ws.length c, .int .i64 n] 53, row A ws.length c (ci .u64 ws) 54 1]) (hR : Rep ws n L) (hn : n ≤ 1048576) (ho : i < 0 ∨ n ≤ i) : Calls Tryd.prog 8 #[.pointer (some ⟨g, 0, none⟩), .int .i64 i] W fun e W' => e = .returned (.bool false) ∧ St W M W' [blk g [.slice A ws.length c, .int .i64 n] 53, row A ws.length c (ci .u64 ws) 54 1] := by
  refine calls_enter [.pointer (some ⟨g, 0, none⟩), .int .i64 i, undef, undef, undef, undef, undef, undef, undef, undef, undef, undef, undef, undef, undef, undef, undef, undef, undef, undef, undef, undef, undef, undef, undef, undef, undef] Tryd.func8 rfl (by kernel_rfl) ?_
  refine wp_seq ?_
  refine wp_region_lit ?_
  refine ql (.bool false) (by kernel_rfl) (by kernel_rfl) ?_
  refine wpList_nil ?_
  refine x_then ?_
  refine wp_seq ?_
  refine wp_seq ?_
  refine wp_region_lit ?_
  refine ql (.pointer (some ⟨g, 0, none⟩)) (by kernel_rfl) (by kernel_rfl) ?_
  refine ql (.int .i64 i) (by kernel_rfl) (by kernel_rfl) ?_
  refine qc (f := 25) (args := #[.pointer (some ⟨g, 0, none⟩), .int .i64 i]) (by kernel_rfl) (R_call #[.pointer (some ⟨g, 0, none⟩), .int .i64 i] Tryd.func25 (by kernel_rfl) (by kernel_rfl) (by kernel_rfl)) ?_
  refine (dis_f _ _ i _ (HS.cell (i := 0) (j := 1) rfl rfl) ho).mono ?_
  rintro e W1 ⟨rfl, H_⟩
  refine ⟨_, rfl, ?_⟩
  replace HS : St W M W1 [blk g [.slice A ws.length c, .int .i64 n] 53, row A ws.length c (ci .u64 ws) 54 1] := HS.join (F := []) (G := []) H_
  clear H_
  refine ql (.bool true) (by kernel_rfl) (by kernel_rfl) ?_
  refine ql (.bool true) (by kernel_rfl) (by kernel_rfl) ?_
  refine qln (by kernel_rfl) ?_
  refine qln (by kernel_rfl) ?_
  refine qln (by kernel_rfl) ?_
  refine ql (.bool true) (by kernel_rfl) (by kernel_rfl) ?_
  refine wpList_nil ?_
  refine x_then ?_
  refine wp_cond_true (by kernel_rfl) ?_
  refine wp_seq ?_
  refine wp_region_lit ?_
  refine ql (.bool false) (by kernel_rfl) (by kernel_rfl) ?_
  refine wpList_nil ?_
  refine x_then ?_
  refine wp_ret ?_
  refine x_thenR ?_
  refine ret_ (.bool false) (by kernel_rfl) ?_
  exact ⟨rfl, HS⟩

set_option maxRecDepth 100000 in
set_option maxHeartbeats 1000000 in
theorem dadd_nil (i : Int) (W : World) : Calls Tryd.prog 8 #[.pointer none, .int .i64 i] W fun e W' => e = .returned (.bool false) ∧ St W (owns []) W' [] := by
  have HS : St W (owns []) W [] := St.start W _
  refine calls_enter [.pointer none, .int .i64 i, undef, undef, undef, undef, undef, undef, undef, undef, undef, undef, undef, undef, undef, undef, undef, undef, undef, undef, undef, undef, undef, undef, undef, undef, undef] Tryd.func8 rfl (by kernel_rfl) ?_
  refine wp_seq ?_
  refine wp_region_lit ?_
  refine ql (.bool false) (by kernel_rfl) (by kernel_rfl) ?_
  refine wpList_nil ?_
  refine x_then ?_
  refine wp_seq ?_
  refine wp_seq ?_
  refine wp_region_lit ?_
  refine ql (.pointer none) (by kernel_rfl) (by kernel_rfl) ?_
  refine ql (.int .i64 i) (by kernel_rfl) (by kernel_rfl) ?_
  refine qc (f := 25) (args := #[.pointer none, .int .i64 i]) (by kernel_rfl) (R_call #[.pointer none, .int .i64 i] Tryd.func25 (by kernel_rfl) (by kernel_rfl) (by kernel_rfl)) ?_
  refine (dis_nil _ _).mono ?_
  rintro e W1 ⟨rfl, H_⟩
  refine ⟨_, rfl, ?_⟩
  replace HS : St W (owns []) W1 [] := HS.join (F := []) (G := []) H_
  clear H_
  refine ql (.bool true) (by kernel_rfl) (by kernel_rfl) ?_
  refine ql (.bool true) (by kernel_rfl) (by kernel_rfl) ?_
  refine qln (by kernel_rfl) ?_
  refine qln (by kernel_rfl) ?_
  refine qln (by kernel_rfl) ?_
  refine ql (.bool true) (by kernel_rfl) (by kernel_rfl) ?_
  refine wpList_nil ?_
  refine x_then ?_
  refine wp_cond_true (by kernel_rfl) ?_
  refine wp_seq ?_
  refine wp_region_lit ?_
  refine ql (.bool false) (by kernel_rfl) (by kernel_rfl) ?_
  refine wpList_nil ?_
  refine x_then ?_
  refine wp_ret ?_
  refine x_thenR ?_
  refine ret_ (.bool false) (by kernel_rfl) ?_
  exact ⟨rfl, HS⟩

set_option maxRecDepth 100000 in
set_option maxHeartbeats 1000000 in
theorem ddel_nil (i : Int) (W : World) : Calls Tryd.prog 13 #[.pointer none, .int .i64 i] W fun e W' => e = .returned (.bool false) ∧ St W (owns []) W' [] := by
  have HS : St W (owns []) W [] := St.start W _
  refine calls_enter [.pointer none, .int .i64 i, undef, undef, undef, undef, undef, undef, undef, undef, undef, undef, undef, undef, undef, undef, undef, undef, undef, undef, undef, undef] Tryd.func13 rfl (by kernel_rfl) ?_
  refine wp_seq ?_
  refine wp_region_lit ?_
  refine ql (.bool false) (by kernel_rfl) (by kernel_rfl) ?_
  refine wpList_nil ?_
  refine x_then ?_
  refine wp_seq ?_
  refine wp_seq ?_
  refine wp_region_lit ?_
  refine ql (.pointer none) (by kernel_rfl) (by kernel_rfl) ?_
  refine ql (.int .i64 i) (by kernel_rfl) (by kernel_rfl) ?_
  refine qc (f := 15) (args := #[.pointer none, .int .i64 i]) (by kernel_rfl) (R_call #[.pointer none, .int .i64 i] Tryd.func15 (by kernel_rfl) (by kernel_rfl) (by kernel_rfl)) ?_
  refine (dhas_nil _ _).mono ?_
  rintro e W1 ⟨rfl, H_⟩
  refine ⟨_, rfl, ?_⟩
  replace HS : St W (owns []) W1 [] := HS.join (F := []) (G := []) H_
  clear H_
  refine ql (.bool true) (by kernel_rfl) (by kernel_rfl) ?_
  refine wpList_nil ?_
  refine x_then ?_
  refine wp_cond_true (by kernel_rfl) ?_
  refine wp_seq ?_
  refine wp_region_lit ?_
  refine ql (.bool false) (by kernel_rfl) (by kernel_rfl) ?_
  refine wpList_nil ?_
  refine x_then ?_
  refine wp_ret ?_
  refine x_thenR ?_
  refine ret_ (.bool false) (by kernel_rfl) ?_
  exact ⟨rfl, HS⟩

set_option maxRecDepth 100000 in
set_option maxHeartbeats 1000000 in
theorem dcount_nil (W : World) : Calls Tryd.prog 12 #[.pointer none] W fun e W' => e = .returned (.int .i64 0) ∧ St W (owns []) W' [] := by
  have HS : St W (owns []) W [] := St.start W _
  refine calls_enter [.pointer none, undef, undef, undef, undef, undef, undef, undef, undef, undef, undef, undef, undef, undef, undef, undef, undef, undef, undef, undef, undef, undef, undef] Tryd.func12 rfl (by kernel_rfl) ?_
  refine wp_seq ?_
  refine wp_region_lit ?_
  refine ql (.int .i64 0) (by kernel_rfl) (by kernel_rfl) ?_
  refine wpList_nil ?_
  refine x_then ?_
  refine wp_seq ?_
  refine wp_region_lit ?_
  refine ql (.int .i64 0) (by kernel_rfl) (by kernel_rfl) ?_
  refine wpList_nil ?_
  refine x_then ?_
  refine wp_seq ?_
  refine wp_seq ?_
  refine wp_region_lit ?_
  refine ql (.pointer none) (by kernel_rfl) (by kernel_rfl) ?_
  refine ql (.bool false) (by kernel_rfl) (by kernel_rfl) ?_
  refine wpList_nil ?_
  refine x_then ?_
  refine wp_cond_false (by kernel_rfl) ?_
  refine wp_skip ?_
  refine x_then ?_
  refine wp_seq ?_
  refine wp_region_lit ?_
  refine ql (.int .i64 0) (by kernel_rfl) (by kernel_rfl) ?_
  refine ql (.int .i64 0) (by kernel_rfl) (by kernel_rfl) ?_
  refine wpList_nil ?_
  refine x_then ?_
  refine wp_ret ?_
  refine ret_ (.int .i64 0) (by kernel_rfl) ?_
  exact ⟨rfl, HS⟩

set_option maxRecDepth 100000 in
set_option maxHeartbeats 1000000 in
theorem dcount (g c : Nat) (A : Option Addr) (ws : List Int) (n : Int) (L : List Int) (W : World) (hz0 : W.cell? ⟨g, 0, none⟩ = some (.slice A ws.length c)) (hz1 : W.cell? ⟨g, 1, none⟩ = some (.int .i64 n)) (hr : Rd W A (ci .u64 ws)) (hR : Rep ws n L) (hn : n ≤ 1048576) : Calls Tryd.prog 12 #[.pointer (some ⟨g, 0, none⟩)] W fun e W' => e = .returned (.int .i64 (L.length : Int)) ∧ St W (owns []) W' [] := by
  have HS : St W (owns []) W [] := St.start W _
  have hlen := hR.len
  refine calls_enter [.pointer (some ⟨g, 0, none⟩), undef, undef, undef, undef, undef, undef, undef, undef, undef, undef, undef, undef, undef, undef, undef, undef, undef, undef, undef, undef, undef, undef] Tryd.func12 rfl (by kernel_rfl) ?_
  refine wp_seq ?_
  refine wp_region_lit ?_
  refine ql (.int .i64 0) (by kernel_rfl) (by kernel_rfl) ?_
  refine wpList_nil ?_
  refine x_then ?_
  refine wp_seq ?_
  refine wp_region_lit ?_
  refine ql (.int .i64 0) (by kernel_rfl) (by kernel_rfl) ?_
  refine wpList_nil ?_
  refine x_then ?_
  refine wp_seq ?_
  refine wp_seq ?_
  refine wp_region_lit ?_
  refine ql (.pointer (some ⟨g, 0, none⟩)) (by kernel_rfl) (by kernel_rfl) ?_
  refine ql (.bool true) (by kernel_rfl) (by kernel_rfl) ?_
  refine wpList_nil ?_
  refine x_then ?_
  refine wp_cond_true (by kernel_rfl) ?_
  refine wp_seq ?_
  refine wp_region_lit ?_
  refine ql (.pointer (some ⟨g, 0, none⟩)) (by kernel_rfl) (by kernel_rfl) ?_
  refine ql (.pointer (some ⟨g, 0, none⟩)) (by kernel_rfl) (by kernel_rfl) ?_
  refine ql (.pointer (some ⟨g, 0, none⟩)) (by kernel_rfl) (by kernel_rfl) ?_
  refine ql (.slice A ws.length c) (by kernel_rfl) (R_load (p := ⟨g, 0, none⟩) (by kernel_rfl) (by kernel_rfl) (by kernel_rfl) (HS.old0 hz0)) ?_
  refine ql (.int .i64 (ws.length : Int)) (by kernel_rfl) (by kernel_rfl) ?_
  refine ql (.int .i64 0) (by kernel_rfl) (by kernel_rfl) ?_
  refine wpList_nil ?_
  refine x_then ?_
  refine wp_block ?_
  refine wp_loop_ghost (fun kq a' w' => ∃ (J1 : Nat → Value) (k : Int) (m : Int) , a' = Fr [.pointer (some ⟨g, 0, none⟩), undef, .int .i64 0, .int .i64 m, undef, (J1 5), .pointer (some ⟨g, 0, none⟩), .bool true, .pointer (some ⟨g, 0, none⟩), .pointer (some ⟨g, 0, none⟩), .pointer (some ⟨g, 0, none⟩), .slice A ws.length c, .int .i64 (ws.length : Int), .int .i64 k, (J1 14), (J1 15), (J1 16), (J1 17), (J1 18), (J1 19), (J1 20), (J1 21), undef] ∧ kq = (ws.length - (k).toNat) ∧ (0 ≤ k) ∧ (k ≤ ws.length) ∧ (m = (cntW ws (k).toNat : Nat)) ∧ St W (owns []) w' []) (ws.length - ((0 : Int)).toNat) ⟨(fun k_ : Nat => List.getD [.pointer (some ⟨g, 0, none⟩), undef, .int .i64 0, .int .i64 0, undef, undef, .pointer (some ⟨g, 0, none⟩), .bool true, .pointer (some ⟨g, 0, none⟩), .pointer (some ⟨g, 0, none⟩), .pointer (some ⟨g, 0, none⟩), .slice A ws.length c, .int .i64 (ws.length : Int), .int .i64 0, undef, undef, undef, undef, undef, undef, undef, undef, undef] k_ undef), (0 : Int), (0 : Int), congrArg Fr (by kernel_rfl), rfl, by omega, by omega, rfl, HS⟩ ?_
  clear HS
  intro kq2 a' W3 hrel
  obtain ⟨J1, k, m, rfl, hk, k0, k1, hm, HS⟩ := hrel
  have hcl := cntW_le ws k.toNat
  refine wp_seq ?_
  refine wp_region_lit ?_
  by_cases hc4 : k < (ws.length : Int)
  · skip
    refine ql (.bool true) (by kernel_rfl) (R_bool (p := k < (ws.length : Int)) (by kernel_rfl) (hc4)) ?_
    refine wpList_nil ?_
    refine x_then ?_
    refine wp_seq ?_
    refine wp_cond_true (by kernel_rfl) ?_
    refine wp_skip ?_
    refine x_then ?_
    refine wp_seq ?_
    refine wp_block ?_
    refine wp_seq ?_
    refine wp_region_lit ?_
    obtain ⟨ad5, rfl⟩ := Rd.isSome_ hr (by rw [ci_len]; omega)
    refine ql (.pointer (some (ad5.add k.toNat))) (by kernel_rfl) (R_indexA1 (k := .i64) (p := ad5) (n := ws.length) (c := c) (i := k) (by kernel_rfl) (by kernel_rfl) Tryd.underlying51 (by kernel_rfl) (by omega) (by omega)) ?_
    refine ql (.int .u64 (rdI ws k)) (by kernel_rfl) (R_load (p := ad5.add k.toNat) (by kernel_rfl) (by kernel_rfl) (by kernel_rfl) (HS.old0 (hr.at_ (ci_rd (i := k) (by omega) (by omega))))) ?_
    refine ql (.int .u64 (rdI ws k)) (by kernel_rfl) (by kernel_rfl) ?_
    refine wpList_nil ?_
    refine x_then ?_
    refine wp_region_lit ?_
    refine ql (.int .i64 m) (by kernel_rfl) (by kernel_rfl) ?_
    refine ql (.int .u64 (rdI ws k)) (by kernel_rfl) (by kernel_rfl) ?_
    refine qc (f := 27) (args := #[.int .u64 (rdI ws k)]) (by kernel_rfl) (R_call #[.int .u64 (rdI ws k)] Tryd.func27 (by kernel_rfl) (by kernel_rfl) (by kernel_rfl)) ?_
    obtain ⟨wv, hwv, hwl⟩ := (hR.rd k0 (by omega : k < ws.length)).nat
    rw [hwv]
    refine (ones64 wv _ hwl).mono ?_
    rintro e W6 ⟨rfl, H_⟩
    refine ⟨_, rfl, ?_⟩
    replace HS : St W (owns []) W6 [] := HS.join (F := []) (G := []) H_
    clear H_
    have hpc := pc_le 64 wv
    refine ql (.int .i64 (m + ((pc 64 wv : Nat) : Int))) (by kernel_rfl) (R_int (by kernel_rfl) (w64 (by omega))) ?_
    refine ql (.int .i64 (m + ((pc 64 wv : Nat) : Int))) (by kernel_rfl) (by kernel_rfl) ?_
    refine wpList_nil ?_
    refine x_inb ?_
    refine x_then ?_
    refine wp_region_lit ?_
    refine ql (.int .i64 (k + 1)) (by kernel_rfl) (R_int (by kernel_rfl) (w64 (by omega))) ?_
    refine ql (.int .i64 (k + 1)) (by kernel_rfl) (by kernel_rfl) ?_
    refine wpList_nil ?_
    have hstep : cntW ws (k + 1).toNat = cntW ws k.toNat + pc 64 wv := by rw [show (k + 1).toNat = k.toNat + 1 by omega, cntW_succ, show ((k.toNat : Nat) : Int) = k by omega, hwv, Int.toNat_natCast]
    refine x_then ?_
    exact ⟨ws.length - (k + 1).toNat, by omega, (fun k_ : Nat => List.getD [.pointer (some ⟨g, 0, none⟩), undef, .int .i64 0, .int .i64 (m + ((pc 64 wv : Nat) : Int)), undef, .int .u64 (wv : Int), .pointer (some ⟨g, 0, none⟩), .bool true, .pointer (some ⟨g, 0, none⟩), .pointer (some ⟨g, 0, none⟩), .pointer (some ⟨g, 0, none⟩), .slice (some ad5) ws.length c, .int .i64 (ws.length : Int), .int .i64 (k + 1), .bool true, .pointer (some (ad5.add k.toNat)), .int .u64 (wv : Int), .int .i64 m, .int .u64 (wv : Int), .int .i64 ((pc 64 wv : Nat) : Int), .int .i64 (m + ((pc 64 wv : Nat) : Int)), .int .i64 (k + 1), undef] k_ undef), k + 1, m + ((pc 64 wv : Nat) : Int), congrArg Fr (by kernel_rfl), rfl, by omega, by omega, by omega, HS⟩
  · skip
    refine ql (.bool false) (by kernel_rfl) (R_nbool (p := k < (ws.length : Int)) (by kernel_rfl) (hc4)) ?_
    refine wpList_nil ?_
    refine x_then ?_
    refine wp_seq ?_
    refine wp_cond_false (by kernel_rfl) ?_
    refine wp_exit ?_
    refine x_thenE ?_
    refine x_thenE ?_
    refine x_hit ?_
    refine x_then ?_
    refine wp_seq ?_
    refine wp_region_lit ?_
    refine ql (.int .i64 m) (by kernel_rfl) (by kernel_rfl) ?_
    refine ql (.int .i64 m) (by kernel_rfl) (by kernel_rfl) ?_
    refine wpList_nil ?_
    refine x_then ?_
    refine wp_ret ?_
    refine ret_ (.int .i64 m) (by kernel_rfl) ?_
    have hk9 : k.toNat = ws.length := by omega
    rw [hk9, hR.cnt] at hm
    subst hm
    exact ⟨rfl, HS⟩


theorem TabAt64.old {W0 W : World} {M : Nat → Prop} {L : List Ent} (h : TabAt64 W0) (HS : St W0 M W L) (h0 : 0 < W0.heap.size) (hm : ¬ M 0) : TabAt64 W := fun j hj => by
  have h1 := h j hj
  unfold World.cell? at h1 ⊢
  rw [HS.kept.block 0 h0 hm]
  exact h1
theorem TabAt64.pos {W : World} (h : TabAt64 W) : 0 < W.heap.size := by
  have h1 := h 0 (by decide)
  unfold World.cell? at h1
  refine Nat.pos_of_ne_zero fun e => ?_
  have hn : W.heap[0]? = none := by rw [Array.getElem?_eq_none_iff]; omega
  rw [hn] at h1; simp at h1
theorem TabAt64.old0 {W0 W : World} {L : List Ent} (h : TabAt64 W0) (HS : St W0 (owns []) W L) : TabAt64 W := h.old HS h.pos (by rintro ⟨e, he, _⟩; cases he)
theorem nxt_max {L : List Int} {ws : List Int} {n : Int} (hR : Rep ws n L) (i : Int) : nxt L i = nxt L (max i 0) := by
  by_cases h : i < 0
  · rw [Int.max_eq_right (by omega)]; exact nxt_neg (fun x hx => (hR.lim x hx).1) h
  · rw [Int.max_eq_left (by omega)]
set_option maxRecDepth 100000 in
set_option maxHeartbeats 1000000 in
theorem dnext (g c : Nat) (A : Option Addr) (ws : List Int) (n : Int) (L : List Int) (i : Int) (W : World) (hz0 : W.cell? ⟨g, 0, none⟩ = some (.slice A ws.length c)) (hz1 : W.cell? ⟨g, 1, none⟩ = some (.int .i64 n)) (hr : Rd W A (ci .u64 ws)) (hR : Rep ws n L) (hn : n ≤ 1048576) (hT : TabAt64 W) : Calls Tryd.prog 23 #[.pointer (some ⟨g, 0, none⟩), .int .i64 i] W fun e W' => e = .returned (.int .i64 (nxt L i)) ∧ St W (owns []) W' [] := by
  have HS : St W (owns []) W [] := St.start W _
  obtain ⟨j, hj⟩ : ∃ z_ : Int, z_ = max i 0 := ⟨_, rfl⟩
  have hji : nxt L i = nxt L j := by rw [hj]; exact nxt_max hR i
  have hj0 : 0 ≤ j := by omega
  have hlen := hR.len
  refine calls_enter ((.pointer (some ⟨g, 0, none⟩)) :: (.int .i64 i) :: undef :: undef :: undef :: undef :: undef :: undef :: undef :: undef :: undef :: undef :: undef :: undef :: undef :: undef :: undef :: undef :: undef :: undef :: undef :: undef :: undef :: undef :: undef :: undef :: undef :: undef :: undef :: undef :: undef :: undef :: undef :: undef :: undef :: undef :: undef :: undef :: undef :: undef :: undef :: undef :: undef :: undef :: undef :: undef :: undef :: undef :: undef :: undef :: undef :: []) Tryd.func23 rfl (by kernel_rfl) ?_
  refine wp_seq ?_
  refine wp_region_lit ?_
  refine ql (.int .i64 0) (by kernel_rfl) (by kernel_rfl) ?_
  refine wpList_nil ?_
  refine x_then ?_
  refine wp_seq ?_
  refine wp_region_lit ?_
  refine ql (.int .i64 i) (by kernel_rfl) (by kernel_rfl) ?_
  refine ql (.int .i64 j) (by kernel_rfl) (R_eq (R_max (i := i) (j := 0) (by kernel_rfl) (by kernel_rfl)) (by rw [hj])) ?_
  refine ql (.int .i64 j) (by kernel_rfl) (by kernel_rfl) ?_
  refine wpList_nil ?_
  refine x_then ?_
  refine wp_seq ?_
  refine wp_seq ?_
  refine wp_region_lit ?_
  refine ql (.pointer (some ⟨g, 0, none⟩)) (by kernel_rfl) (by kernel_rfl) ?_
  refine ql (.int .i64 j) (by kernel_rfl) (by kernel_rfl) ?_
  refine qc (f := 25) (args := #[.pointer (some ⟨g, 0, none⟩), .int .i64 j]) (by kernel_rfl) (R_call #[.pointer (some ⟨g, 0, none⟩), .int .i64 j] Tryd.func25 (by kernel_rfl) (by kernel_rfl) (by kernel_rfl)) ?_
  by_cases hjn : j < n
  · skip
    refine (dis_t _ _ j _ (HS.old0 hz1) hj0 hjn).mono ?_
    rintro e W1 ⟨rfl, H_⟩
    refine ⟨_, rfl, ?_⟩
    replace HS : St W (owns []) W1 [] := HS.join (F := []) (G := []) H_
    clear H_
    refine ql (.bool false) (by kernel_rfl) (by kernel_rfl) ?_
    refine wpList_nil ?_
    refine x_then ?_
    refine wp_cond_false (by kernel_rfl) ?_
    refine wp_skip ?_
    refine x_then ?_
    refine wp_seq ?_
    refine wp_region_lit ?_
    refine ql (.int .i64 j) (by kernel_rfl) (by kernel_rfl) ?_
    refine ql (.int .i64 (j / 64)) (by kernel_rfl) (R_quo (by kernel_rfl) (by kernel_rfl) (by omega) (by omega) (by decide)) ?_
    refine ql (.int .i64 (j / 64)) (by kernel_rfl) (by kernel_rfl) ?_
    refine wpList_nil ?_
    refine x_then ?_
    refine wp_seq ?_
    refine wp_region_lit ?_
    refine ql (.pointer (some ⟨g, 0, none⟩)) (by kernel_rfl) (by kernel_rfl) ?_
    refine ql (.pointer (some ⟨g, 0, none⟩)) (by kernel_rfl) (by kernel_rfl) ?_
    refine ql (.pointer (some ⟨g, 0, none⟩)) (by kernel_rfl) (by kernel_rfl) ?_
    refine ql (.slice A ws.length c) (by kernel_rfl) (R_load (p := ⟨g, 0, none⟩) (by kernel_rfl) (by kernel_rfl) (by kernel_rfl) (HS.old0 hz0)) ?_
    refine ql (.int .i64 (j / 64)) (by kernel_rfl) (by kernel_rfl) ?_
    obtain ⟨ad2, rfl⟩ := Rd.isSome_ hr (by rw [ci_len]; omega)
    refine ql (.pointer (some (ad2.add (j / 64).toNat))) (by kernel_rfl) (R_indexA1 (k := .i64) (p := ad2) (n := ws.length) (c := c) (i := j / 64) (by kernel_rfl) (by kernel_rfl) Tryd.underlying51 (by kernel_rfl) (by omega) (by omega)) ?_
    refine ql (.int .u64 (rdI ws (j / 64))) (by kernel_rfl) (R_load (p := ad2.add (j / 64).toNat) (by kernel_rfl) (by kernel_rfl) (by kernel_rfl) (HS.old0 (hr.at_ (ci_rd (i := j / 64) (by omega) (by omega))))) ?_
    refine ql (.int .i64 j) (by kernel_rfl) (by kernel_rfl) ?_
    refine ql (.int .i64 (j % 64)) (by kernel_rfl) (R_rem2 (by kernel_rfl) (by kernel_rfl) (by omega) (by omega) (by decide)) ?_
    refine ql (.int .u64 (shrW (rdI ws (j / 64)) (j % 64))) (by kernel_rfl) (R_shr (k2 := .i64) (by kernel_rfl) (by kernel_rfl) (hR.rd_at hj0 hjn) (by omega) (by omega)) ?_
    refine ql (.int .i64 j) (by kernel_rfl) (by kernel_rfl) ?_
    refine ql (.int .i64 (j % 64)) (by kernel_rfl) (R_rem2 (by kernel_rfl) (by kernel_rfl) (by omega) (by omega) (by decide)) ?_
    refine ql (.int .u64 (shlW (shrW (rdI ws (j / 64)) (j % 64)) (j % 64))) (by kernel_rfl) (R_shl (k2 := .i64) (by kernel_rfl) (by kernel_rfl) (u_shr (hR.rd_at hj0 hjn)) (by omega) (by omega)) ?_
    refine ql (.int .u64 (shlW (shrW (rdI ws (j / 64)) (j % 64)) (j % 64))) (by kernel_rfl) (by kernel_rfl) ?_
    refine wpList_nil ?_
    refine x_then ?_
    refine wp_block ?_
    have hij := hR.idx hj0 hjn
    refine wp_loop_ghost (fun kq a' w' => ∃ (J3 : Nat → Value) (k : Int) (wv : Int) , a' = Fr ((.pointer (some ⟨g, 0, none⟩)) :: (.int .i64 j) :: undef :: undef :: ((J3 4)) :: (.int .i64 k) :: (.int .u64 wv) :: (.int .i64 i) :: (.int .i64 j) :: (.pointer (some ⟨g, 0, none⟩)) :: (.int .i64 j) :: (.bool true) :: (.bool false) :: (.int .i64 j) :: (.int .i64 (j / 64)) :: (.pointer (some ⟨g, 0, none⟩)) :: (.pointer (some ⟨g, 0, none⟩)) :: (.pointer (some ⟨g, 0, none⟩)) :: (.slice (some ad2) ws.length c) :: (.int .i64 (j / 64)) :: (.pointer (some (ad2.add (j / 64).toNat))) :: (.int .u64 (rdI ws (j / 64))) :: (.int .i64 j) :: (.int .i64 (j % 64)) :: (.int .u64 (shrW (rdI ws (j / 64)) (j % 64))) :: (.int .i64 j) :: (.int .i64 (j % 64)) :: (.int .u64 (shlW (shrW (rdI ws (j / 64)) (j % 64)) (j % 64))) :: ((J3 28)) :: ((J3 29)) :: ((J3 30)) :: ((J3 31)) :: ((J3 32)) :: ((J3 33)) :: ((J3 34)) :: ((J3 35)) :: ((J3 36)) :: ((J3 37)) :: ((J3 38)) :: ((J3 39)) :: ((J3 40)) :: ((J3 41)) :: ((J3 42)) :: ((J3 43)) :: ((J3 44)) :: ((J3 45)) :: ((J3 46)) :: ((J3 47)) :: ((J3 48)) :: ((J3 49)) :: ((J3 50)) :: []) ∧ kq = (ws.length - (k).toNat) ∧ (0 ≤ k) ∧ (k < ws.length) ∧ (Nw ws j k wv) ∧ (∀ x ∈ L, j ≤ x → 64 * k ≤ x) ∧ (j < 64 * k + 64) ∧ St W (owns []) w' []) (ws.length - (j / 64).toNat) ⟨(fun k_ : Nat => List.getD ((.pointer (some ⟨g, 0, none⟩)) :: (.int .i64 j) :: undef :: undef :: (.int .i64 0) :: (.int .i64 (j / 64)) :: (.int .u64 (shlW (shrW (rdI ws (j / 64)) (j % 64)) (j % 64))) :: (.int .i64 i) :: (.int .i64 j) :: (.pointer (some ⟨g, 0, none⟩)) :: (.int .i64 j) :: (.bool true) :: (.bool false) :: (.int .i64 j) :: (.int .i64 (j / 64)) :: (.pointer (some ⟨g, 0, none⟩)) :: (.pointer (some ⟨g, 0, none⟩)) :: (.pointer (some ⟨g, 0, none⟩)) :: (.slice (some ad2) ws.length c) :: (.int .i64 (j / 64)) :: (.pointer (some (ad2.add (j / 64).toNat))) :: (.int .u64 (rdI ws (j / 64))) :: (.int .i64 j) :: (.int .i64 (j % 64)) :: (.int .u64 (shrW (rdI ws (j / 64)) (j % 64))) :: (.int .i64 j) :: (.int .i64 (j % 64)) :: (.int .u64 (shlW (shrW (rdI ws (j / 64)) (j % 64)) (j % 64))) :: undef :: undef :: undef :: undef :: undef :: undef :: undef :: undef :: undef :: undef :: undef :: undef :: undef :: undef :: undef :: undef :: undef :: undef :: undef :: undef :: undef :: undef :: undef :: []) k_ undef), j / 64, shlW (shrW (rdI ws (j / 64)) (j % 64)) (j % 64), congrArg Fr (by kernel_rfl), rfl, by omega, by omega, hR.nw_first hj0 hjn, fun x hx h => by omega, by omega, HS⟩ ?_
    clear HS
    intro kq4 a' W5 hrel
    obtain ⟨J3, k, wv, rfl, hk, k0, k1, hw, hlow, hjk, HS⟩ := hrel
    refine wp_seq ?_
    refine wp_block ?_
    refine wp_seq ?_
    refine wp_seq ?_
    refine wp_region_lit ?_
    refine ql (.int .u64 wv) (by kernel_rfl) (by kernel_rfl) ?_
    by_cases hc6 : wv = (0 : Int)
    · skip
      refine ql (.bool false) (by kernel_rfl) (R_beq (b := (wv != (0 : Int))) (by kernel_rfl) (bne_f (hc6))) ?_
      refine wpList_nil ?_
      refine x_then ?_
      refine wp_cond_false (by kernel_rfl) ?_
      refine wp_skip ?_
      refine x_then ?_
      refine wp_seq ?_
      refine wp_region_lit ?_
      refine ql (.int .i64 k) (by kernel_rfl) (by kernel_rfl) ?_
      refine ql (.int .i64 (k + 1)) (by kernel_rfl) (R_int (by kernel_rfl) (w64 (by omega))) ?_
      refine ql (.int .i64 (k + 1)) (by kernel_rfl) (by kernel_rfl) ?_
      refine wpList_nil ?_
      refine x_then ?_
      refine wp_seq ?_
      refine wp_region_lit ?_
      refine ql (.int .i64 (k + 1)) (by kernel_rfl) (by kernel_rfl) ?_
      refine ql (.pointer (some ⟨g, 0, none⟩)) (by kernel_rfl) (by kernel_rfl) ?_
      refine ql (.pointer (some ⟨g, 0, none⟩)) (by kernel_rfl) (by kernel_rfl) ?_
      refine ql (.pointer (some ⟨g, 0, none⟩)) (by kernel_rfl) (by kernel_rfl) ?_
      refine ql (.slice (some ad2) ws.length c) (by kernel_rfl) (R_load (p := ⟨g, 0, none⟩) (by kernel_rfl) (by kernel_rfl) (by kernel_rfl) (HS.old0 hz0)) ?_
      refine ql (.int .i64 (ws.length : Int)) (by kernel_rfl) (by kernel_rfl) ?_
      by_cases hc7 : (k + 1) = (ws.length : Int)
      · skip
        refine ql (.bool true) (by kernel_rfl) (R_beq (b := (k + 1 == (ws.length : Int))) (by kernel_rfl) (beq_t (hc7))) ?_
        refine wpList_nil ?_
        refine x_then ?_
        refine wp_cond_true (by kernel_rfl) ?_
        refine wp_seq ?_
        refine wp_region_lit ?_
        refine ql (.int .i64 (-1)) (by kernel_rfl) (by kernel_rfl) ?_
        refine wpList_nil ?_
        refine x_then ?_
        refine wp_ret ?_
        refine x_inbR ?_
        refine x_thenR ?_
        refine x_thenR ?_
        refine x_inbR ?_
        refine ret_ (.int .i64 (-1)) (by kernel_rfl) ?_
        have hsk := hR.nxt_skip k0 k1 hw hc6 hlow
        exact ⟨by rw [hji, hR.nxt_over (by rw [show (ws.length : Int) = k + 1 by omega]; exact hsk)], HS⟩
      · skip
        refine ql (.bool false) (by kernel_rfl) (R_beq (b := (k + 1 == (ws.length : Int))) (by kernel_rfl) (beq_f (hc7))) ?_
        refine wpList_nil ?_
        refine x_then ?_
        refine wp_cond_false (by kernel_rfl) ?_
        refine wp_skip ?_
        refine x_inb ?_
        refine x_then ?_
        refine wp_region_lit ?_
        refine ql (.pointer (some ⟨g, 0, none⟩)) (by kernel_rfl) (by kernel_rfl) ?_
        refine ql (.pointer (some ⟨g, 0, none⟩)) (by kernel_rfl) (by kernel_rfl) ?_
        refine ql (.pointer (some ⟨g, 0, none⟩)) (by kernel_rfl) (by kernel_rfl) ?_
        refine ql (.slice (some ad2) ws.length c) (by kernel_rfl) (R_load (p := ⟨g, 0, none⟩) (by kernel_rfl) (by kernel_rfl) (by kernel_rfl) (HS.old0 hz0)) ?_
        refine ql (.int .i64 (k + 1)) (by kernel_rfl) (by kernel_rfl) ?_
        refine ql (.pointer (some (ad2.add (k + 1).toNat))) (by kernel_rfl) (R_indexA1 (k := .i64) (p := ad2) (n := ws.length) (c := c) (i := k + 1) (by kernel_rfl) (by kernel_rfl) Tryd.underlying51 (by kernel_rfl) (by omega) (by omega)) ?_
        refine ql (.int .u64 (rdI ws (k + 1))) (by kernel_rfl) (R_load (p := ad2.add (k + 1).toNat) (by kernel_rfl) (by kernel_rfl) (by kernel_rfl) (HS.old0 (hr.at_ (ci_rd (i := k + 1) (by omega) (by omega))))) ?_
        refine ql (.int .u64 (rdI ws (k + 1))) (by kernel_rfl) (by kernel_rfl) ?_
        refine wpList_nil ?_
        refine x_then ?_
        exact ⟨ws.length - (k + 1).toNat, by omega, (fun k_ : Nat => List.getD ((.pointer (some ⟨g, 0, none⟩)) :: (.int .i64 j) :: undef :: undef :: ((J3 4)) :: (.int .i64 (k + 1)) :: (.int .u64 (rdI ws (k + 1))) :: (.int .i64 i) :: (.int .i64 j) :: (.pointer (some ⟨g, 0, none⟩)) :: (.int .i64 j) :: (.bool true) :: (.bool false) :: (.int .i64 j) :: (.int .i64 (j / 64)) :: (.pointer (some ⟨g, 0, none⟩)) :: (.pointer (some ⟨g, 0, none⟩)) :: (.pointer (some ⟨g, 0, none⟩)) :: (.slice (some ad2) ws.length c) :: (.int .i64 (j / 64)) :: (.pointer (some (ad2.add (j / 64).toNat))) :: (.int .u64 (rdI ws (j / 64))) :: (.int .i64 j) :: (.int .i64 (j % 64)) :: (.int .u64 (shrW (rdI ws (j / 64)) (j % 64))) :: (.int .i64 j) :: (.int .i64 (j % 64)) :: (.int .u64 (shlW (shrW (rdI ws (j / 64)) (j % 64)) (j % 64))) :: (.pointer (some ⟨g, 0, none⟩)) :: (.pointer (some ⟨g, 0, none⟩)) :: (.pointer (some ⟨g, 0, none⟩)) :: (.slice (some ad2) ws.length c) :: (.int .i64 (k + 1)) :: (.pointer (some (ad2.add (k + 1).toNat))) :: (.int .u64 (rdI ws (k + 1))) :: (.int .u64 wv) :: (.bool false) :: ((J3 37)) :: ((J3 38)) :: ((J3 39)) :: ((J3 40)) :: ((J3 41)) :: (.int .i64 k) :: (.int .i64 (k + 1)) :: (.int .i64 (k + 1)) :: (.pointer (some ⟨g, 0, none⟩)) :: (.pointer (some ⟨g, 0, none⟩)) :: (.pointer (some ⟨g, 0, none⟩)) :: (.slice (some ad2) ws.length c) :: (.int .i64 (ws.length : Int)) :: (.bool false) :: []) k_ undef), k + 1, rdI ws (k + 1), congrArg Fr (by kernel_rfl), rfl, by omega, by omega, hR.nw_next (by omega) (by omega) (by omega), hR.nxt_skip k0 k1 hw hc6 hlow, by omega, HS⟩
    · skip
      refine ql (.bool true) (by kernel_rfl) (R_beq (b := (wv != (0 : Int))) (by kernel_rfl) (bne_t (hc6))) ?_
      refine wpList_nil ?_
      refine x_then ?_
      refine wp_cond_true (by kernel_rfl) ?_
      refine wp_seq ?_
      refine wp_region_lit ?_
      refine ql (.int .i64 k) (by kernel_rfl) (by kernel_rfl) ?_
      refine ql (.int .i64 (k * 64)) (by kernel_rfl) (R_int (by kernel_rfl) (w64 (by omega))) ?_
      refine ql (.int .u64 wv) (by kernel_rfl) (by kernel_rfl) ?_
      refine qc (f := 35) (args := #[.int .u64 wv]) (by kernel_rfl) (R_call #[.int .u64 wv] Tryd.func35 (by kernel_rfl) (by kernel_rfl) (by kernel_rfl)) ?_
      obtain ⟨wn, hwn, hwl⟩ := hw.1.nat
      subst hwn
      have hf := hR.nxt_found k0 k1 hw (by omega) hlow
      simp only [Int.toNat_natCast] at hf
      obtain ⟨hf1, hf2⟩ := hf
      refine (tz64 wn _ hwl (by omega) (hT.old0 HS)).mono ?_
      rintro e W8 ⟨rfl, H_⟩
      refine ⟨_, rfl, ?_⟩
      replace HS : St W (owns []) W8 [] := HS.join (F := []) (G := []) H_
      clear H_
      refine ql (.int .i64 ((k * 64) + ((Lib.ctz 64 wn : Nat) : Int))) (by kernel_rfl) (R_int (by kernel_rfl) (w64 (by omega))) ?_
      refine ql (.int .i64 ((k * 64) + ((Lib.ctz 64 wn : Nat) : Int))) (by kernel_rfl) (by kernel_rfl) ?_
      refine wpList_nil ?_
      refine x_then ?_
      refine wp_ret ?_
      refine x_thenR ?_
      refine x_inbR ?_
      refine x_thenR ?_
      refine x_thenR ?_
      refine x_inbR ?_
      refine ret_ (.int .i64 ((k * 64) + ((Lib.ctz 64 wn : Nat) : Int))) (by kernel_rfl) ?_
      exact ⟨by rw [hji, hf1], HS⟩
  · skip
    refine (dis_f _ _ j _ (HS.old0 hz1) (by omega)).mono ?_
    rintro e W9 ⟨rfl, H_⟩
    refine ⟨_, rfl, ?_⟩
    replace HS : St W (owns []) W9 [] := HS.join (F := []) (G := []) H_
    clear H_
    refine ql (.bool true) (by kernel_rfl) (by kernel_rfl) ?_
    refine wpList_nil ?_
    refine x_then ?_
    refine wp_cond_true (by kernel_rfl) ?_
    refine wp_seq ?_
    refine wp_region_lit ?_
    refine ql (.int .i64 (-1)) (by kernel_rfl) (by kernel_rfl) ?_
    refine wpList_nil ?_
    refine x_then ?_
    refine wp_ret ?_
    refine x_thenR ?_
    refine ret_ (.int .i64 (-1)) (by kernel_rfl) ?_
    exact ⟨by rw [hji, hR.nxt_out (by omega)], HS⟩

set_option maxRecDepth 100000 in
set_option maxHeartbeats 1000000 in
theorem dnext_nil (i : Int) (W : World) : Calls Tryd.prog 23 #[.pointer none, .int .i64 i] W fun e W' => e = .returned (.int .i64 (-1)) ∧ St W (owns []) W' [] := by
  have HS : St W (owns []) W [] := St.start W _
  obtain ⟨j, hj⟩ : ∃ z_ : Int, z_ = max i 0 := ⟨_, rfl⟩
  refine calls_enter ((.pointer none) :: (.int .i64 i) :: undef :: undef :: undef :: undef :: undef :: undef :: undef :: undef :: undef :: undef :: undef :: undef :: undef :: undef :: undef :: undef :: undef :: undef :: undef :: undef :: undef :: undef :: undef :: undef :: undef :: undef :: undef :: undef :: undef :: undef :: undef :: undef :: undef :: undef :: undef :: undef :: undef :: undef :: undef :: undef :: undef :: undef :: undef :: undef :: undef :: undef :: undef :: undef :: undef :: []) Tryd.func23 rfl (by kernel_rfl) ?_
  refine wp_seq ?_
  refine wp_region_lit ?_
  refine ql (.int .i64 0) (by kernel_rfl) (by kernel_rfl) ?_
  refine wpList_nil ?_
  refine x_then ?_
  refine wp_seq ?_
  refine wp_region_lit ?_
  refine ql (.int .i64 i) (by kernel_rfl) (by kernel_rfl) ?_
  refine ql (.int .i64 j) (by kernel_rfl) (R_eq (R_max (i := i) (j := 0) (by kernel_rfl) (by kernel_rfl)) (by rw [hj])) ?_
  refine ql (.int .i64 j) (by kernel_rfl) (by kernel_rfl) ?_
  refine wpList_nil ?_
  refine x_then ?_
  refine wp_seq ?_
  refine wp_seq ?_
  refine wp_region_lit ?_
  refine ql (.pointer none) (by kernel_rfl) (by kernel_rfl) ?_
  refine ql (.int .i64 j) (by kernel_rfl) (by kernel_rfl) ?_
  refine qc (f := 25) (args := #[.pointer none, .int .i64 j]) (by kernel_rfl) (R_call #[.pointer none, .int .i64 j] Tryd.func25 (by kernel_rfl) (by kernel_rfl) (by kernel_rfl)) ?_
  refine (dis_nil _ _).mono ?_
  rintro e W1 ⟨rfl, H_⟩
  refine ⟨_, rfl, ?_⟩
  replace HS : St W (owns []) W1 [] := HS.join (F := []) (G := []) H_
  clear H_
  refine ql (.bool true) (by kernel_rfl) (by kernel_rfl) ?_
  refine wpList_nil ?_
  refine x_then ?_
  refine wp_cond_true (by kernel_rfl) ?_
  refine wp_seq ?_
  refine wp_region_lit ?_
  refine ql (.int .i64 (-1)) (by kernel_rfl) (by kernel_rfl) ?_
  refine wpList_nil ?_
  refine x_then ?_
  refine wp_ret ?_
  refine x_thenR ?_
  refine ret_ (.int .i64 (-1)) (by kernel_rfl) ?_
  exact ⟨rfl, HS⟩


set_option maxRecDepth 100000 in
set_option maxHeartbeats 1000000 in
theorem dor_nil_l (g h : Nat) (W : World) : Calls Tryd.prog 11 #[.pointer none, .pointer (some ⟨h, 0, none⟩)] W fun e W' => e = .returned (.bool false) ∧ St W (owns []) W' [] := by
  have HS : St W (owns []) W [] := St.start W _
  refine calls_enter ((.pointer none) :: (.pointer (some ⟨h, 0, none⟩)) :: undef :: undef :: undef :: undef :: undef :: undef :: undef :: undef :: undef :: undef :: undef :: undef :: undef :: undef :: undef :: undef :: undef :: undef :: undef :: undef :: undef :: undef :: undef :: undef :: undef :: undef :: undef :: undef :: undef :: undef :: undef :: undef :: undef :: undef :: undef :: undef :: undef :: undef :: undef :: undef :: undef :: undef :: undef :: undef :: undef :: undef :: undef :: undef :: undef :: undef :: undef :: undef :: undef :: undef :: undef :: undef :: undef :: []) Tryd.func11 rfl (by kernel_rfl) ?_
  refine wp_seq ?_
  refine wp_region_lit ?_
  refine ql (.bool false) (by kernel_rfl) (by kernel_rfl) ?_
  refine wpList_nil ?_
  refine x_then ?_
  refine wp_seq ?_
  refine wp_seq ?_
  refine rg_still HS 16 (by kernel_rfl) (by kernel_rfl) ?_
  intro W1 H_ HK_
  simp only [List.take_succ_cons, List.take_zero, List.drop_succ_cons, List.drop_zero]
  replace HS : St W (owns []) W1 [] := H_
  clear H_
  clear HK_
  refine qs (.pointer none) (by kernel_rfl) (by kernel_rfl) ?_
  refine qs (.bool true) (by kernel_rfl) (by kernel_rfl) ?_
  refine qs (.bool true) (by kernel_rfl) (by kernel_rfl) ?_
  refine qsn (by kernel_rfl) ?_
  refine qsn (by kernel_rfl) ?_
  refine qs (.bool true) (by kernel_rfl) (by kernel_rfl) ?_
  refine qs (.bool true) (by kernel_rfl) (by kernel_rfl) ?_
  refine qsn (by kernel_rfl) ?_
  refine qsn (by kernel_rfl) ?_
  refine qsn (by kernel_rfl) ?_
  refine qsn (by kernel_rfl) ?_
  refine qsn (by kernel_rfl) ?_
  refine qsn (by kernel_rfl) ?_
  refine qsn (by kernel_rfl) ?_
  refine qsn (by kernel_rfl) ?_
  refine qsn (by kernel_rfl) ?_
  refine wpStill_nil ?_
  refine ql (.bool true) (by kernel_rfl) (by kernel_rfl) ?_
  refine wpList_nil ?_
  refine x_then ?_
  refine wp_cond_true (by kernel_rfl) ?_
  refine wp_seq ?_
  refine wp_region_lit ?_
  refine ql (.bool false) (by kernel_rfl) (by kernel_rfl) ?_
  refine wpList_nil ?_
  refine x_then ?_
  refine wp_ret ?_
  refine x_thenR ?_
  refine ret_ (.bool false) (by kernel_rfl) ?_
  exact ⟨rfl, HS⟩

set_option maxRecDepth 100000 in
set_option maxHeartbeats 1000000 in
theorem dor_nil_r (g h : Nat) (W : World) : Calls Tryd.prog 11 #[.pointer (some ⟨g, 0, none⟩), .pointer none] W fun e W' => e = .returned (.bool false) ∧ St W (owns []) W' [] := by
  have HS : St W (owns []) W [] := St.start W _
  refine calls_enter ((.pointer (some ⟨g, 0, none⟩)) :: (.pointer none) :: undef :: undef :: undef :: undef :: undef :: undef :: undef :: undef :: undef :: undef :: undef :: undef :: undef :: undef :: undef :: undef :: undef :: undef :: undef :: undef :: undef :: undef :: undef :: undef :: undef :: undef :: undef :: undef :: undef :: undef :: undef :: undef :: undef :: undef :: undef :: undef :: undef :: undef :: undef :: undef :: undef :: undef :: undef :: undef :: undef :: undef :: undef :: undef :: undef :: undef :: undef :: undef :: undef :: undef :: undef :: undef :: undef :: []) Tryd.func11 rfl (by kernel_rfl) ?_
  refine wp_seq ?_
  refine wp_region_lit ?_
  refine ql (.bool false) (by kernel_rfl) (by kernel_rfl) ?_
  refine wpList_nil ?_
  refine x_then ?_
  refine wp_seq ?_
  refine wp_seq ?_
  refine rg_still HS 16 (by kernel_rfl) (by kernel_rfl) ?_
  intro W1 H_ HK_
  simp only [List.take_succ_cons, List.take_zero, List.drop_succ_cons, List.drop_zero]
  replace HS : St W (owns []) W1 [] := H_
  clear H_
  clear HK_
  refine qs (.pointer (some ⟨g, 0, none⟩)) (by kernel_rfl) (by kernel_rfl) ?_
  refine qs (.bool false) (by kernel_rfl) (by kernel_rfl) ?_
  refine qs (.bool false) (by kernel_rfl) (by kernel_rfl) ?_
  refine qs (.pointer none) (by kernel_rfl) (by kernel_rfl) ?_
  refine qs (.bool true) (by kernel_rfl) (by kernel_rfl) ?_
  refine qs (.bool true) (by kernel_rfl) (by kernel_rfl) ?_
  refine qs (.bool true) (by kernel_rfl) (by kernel_rfl) ?_
  refine qsn (by kernel_rfl) ?_
  refine qsn (by kernel_rfl) ?_
  refine qsn (by kernel_rfl) ?_
  refine qsn (by kernel_rfl) ?_
  refine qsn (by kernel_rfl) ?_
  refine qsn (by kernel_rfl) ?_
  refine qsn (by kernel_rfl) ?_
  refine qsn (by kernel_rfl) ?_
  refine qsn (by kernel_rfl) ?_
  refine wpStill_nil ?_
  refine ql (.bool true) (by kernel_rfl) (by kernel_rfl) ?_
  refine wpList_nil ?_
  refine x_then ?_
  refine wp_cond_true (by kernel_rfl) ?_
  refine wp_seq ?_
  refine wp_region_lit ?_
  refine ql (.bool false) (by kernel_rfl) (by kernel_rfl) ?_
  refine wpList_nil ?_
  refine x_then ?_
  refine wp_ret ?_
  refine x_thenR ?_
  refine ret_ (.bool false) (by kernel_rfl) ?_
  exact ⟨rfl, HS⟩

set_option maxRecDepth 100000 in
set_option maxHeartbeats 1000000 in
theorem dclone_nil (W : World) : Calls Tryd.prog 9 #[.pointer none] W fun e W' => e = .returned (.pointer none) ∧ St W (owns []) W' [] := by
  have HS : St W (owns []) W [] := St.start W _
  refine calls_enter [.pointer none, undef, undef, undef, undef, undef, undef, undef, undef, undef, undef, undef, undef, undef, undef, undef] Tryd.func9 rfl (by kernel_rfl) ?_
  refine wp_seq ?_
  refine wp_region_lit ?_
  refine ql (.pointer none) (by kernel_rfl) (by kernel_rfl) ?_
  refine wpList_nil ?_
  refine x_then ?_
  refine wp_seq ?_
  refine wp_seq ?_
  refine wp_region_lit ?_
  refine ql (.pointer none) (by kernel_rfl) (by kernel_rfl) ?_
  refine ql (.bool true) (by kernel_rfl) (by kernel_rfl) ?_
  refine wpList_nil ?_
  refine x_then ?_
  refine wp_cond_true (by kernel_rfl) ?_
  refine wp_seq ?_
  refine wp_region_lit ?_
  refine ql (.pointer none) (by kernel_rfl) (by kernel_rfl) ?_
  refine wpList_nil ?_
  refine x_then ?_
  refine wp_ret ?_
  refine x_thenR ?_
  refine ret_ (.pointer none) (by kernel_rfl) ?_
  exact ⟨rfl, HS⟩

set_option maxRecDepth 100000 in
set_option maxHeartbeats 1000000 in
theorem dsame_nil (g : Nat) (n : Int) (W : World) : Calls Tryd.prog 20 #[.pointer none, .pointer none] W fun e W' => e = .returned (.bool true) ∧ St W (owns []) W' [] := by
  have HS : St W (owns []) W [] := St.start W _
  refine calls_enter [.pointer none, .pointer none, undef, undef, undef, undef, undef, undef, undef, undef, undef, undef, undef, undef, undef, undef, undef, undef, undef, undef, undef, undef, undef, undef, undef, undef, undef, undef, undef, undef, undef, undef] Tryd.func20 rfl (by kernel_rfl) ?_
  refine wp_seq ?_
  refine wp_region_lit ?_
  refine ql (.bool false) (by kernel_rfl) (by kernel_rfl) ?_
  refine wpList_nil ?_
  refine x_then ?_
  refine wp_seq ?_
  refine t_start HS (fun _ => False) 28 (by kernel_rfl) rfl ?_
  intro W1 H_ HD_
  clear HD_
  replace HS : St W (owns []) W1 [] := H_
  clear H_
  have HV := HS
  have HK := Kpt.refl (fun _ => False) W1
  refine t_q (n := 27) 0 (.pointer none) rfl (by kernel_rfl) (by kernel_rfl) (fun _ _ _ h => h) (fun w' hk => (by kernel_rfl)) HK ?_
  refine t_q (n := 26) 2 (.pointer none) rfl (by kernel_rfl) (by kernel_rfl) (fun _ _ _ h => h) (fun w' hk => (by kernel_rfl)) HK ?_
  refine t_c (n := 25) 1 (f := 22) (args := #[.pointer none]) rfl (by kernel_rfl) (by kernel_rfl) (R_call #[.pointer none] Tryd.func22 (by kernel_rfl) (by kernel_rfl) (by kernel_rfl)) ?_
  refine (dsize_nil _).mono ?_
  rintro e W2 ⟨rfl, H_⟩
  refine ⟨_, rfl, HK.tr H_.kept.nil, ?_⟩
  replace HK := HK.tr H_.kept.nil
  replace HS : St W (owns []) W2 [] := HS.join (F := []) (G := []) H_
  clear H_
  refine t_c (n := 24) 3 (f := 22) (args := #[.pointer none]) rfl (by kernel_rfl) (by kernel_rfl) (R_call #[.pointer none] Tryd.func22 (by kernel_rfl) (by kernel_rfl) (by kernel_rfl)) ?_
  refine (dsize_nil _).mono ?_
  rintro e W3 ⟨rfl, H_⟩
  refine ⟨_, rfl, HK.tr H_.kept.nil, ?_⟩
  replace HK := HK.tr H_.kept.nil
  replace HS : St W (owns []) W3 [] := HS.join (F := []) (G := []) H_
  clear H_
  refine t_q (n := 23) 4 (.bool true) rfl (by kernel_rfl) (by kernel_rfl) (fun _ _ _ h => h) (fun w' hk => (R_beq (b := ((0 : Int) == 0)) (by kernel_rfl) (by decide))) HK ?_
  refine t_q (n := 22) 5 (.bool true) rfl (by kernel_rfl) (by kernel_rfl) (fun _ _ _ h => h) (fun w' hk => (by kernel_rfl)) HK ?_
  refine t_q (n := 21) 6 (.pointer none) rfl (by kernel_rfl) (by kernel_rfl) (fun _ _ _ h => h) (fun w' hk => (by kernel_rfl)) HK ?_
  refine t_q (n := 20) 7 (.bool true) rfl (by kernel_rfl) (by kernel_rfl) (fun _ _ _ h => h) (fun w' hk => (by kernel_rfl)) HK ?_
  refine t_q (n := 19) 8 (.pointer none) rfl (by kernel_rfl) (by kernel_rfl) (fun _ _ _ h => h) (fun w' hk => (by kernel_rfl)) HK ?_
  refine t_q (n := 18) 9 (.bool true) rfl (by kernel_rfl) (by kernel_rfl) (fun _ _ _ h => h) (fun w' hk => (by kernel_rfl)) HK ?_
  refine t_q (n := 17) 10 (.bool true) rfl (by kernel_rfl) (by kernel_rfl) (fun _ _ _ h => h) (fun w' hk => (by kernel_rfl)) HK ?_
  refine t_q (n := 16) 11 (.bool true) rfl (by kernel_rfl) (by kernel_rfl) (fun _ _ _ h => h) (fun w' hk => (by kernel_rfl)) HK ?_
  refine t_q (n := 15) 12 (.bool true) rfl (by kernel_rfl) (by kernel_rfl) (fun _ _ _ h => h) (fun w' hk => (by kernel_rfl)) HK ?_
  refine t_q (n := 14) 13 (.pointer none) rfl (by kernel_rfl) (by kernel_rfl) (fun _ _ _ h => h) (fun w' hk => (by kernel_rfl)) HK ?_
  refine t_q (n := 13) 14 (.bool true) rfl (by kernel_rfl) (by kernel_rfl) (fun _ _ _ h => h) (fun w' hk => (by kernel_rfl)) HK ?_
  refine t_q (n := 12) 15 (.bool true) rfl (by kernel_rfl) (by kernel_rfl) (fun _ _ _ h => h) (fun w' hk => (by kernel_rfl)) HK ?_
  refine t_qn (n := 11) 16 rfl (by kernel_rfl) (by kernel_rfl) (fun _ _ _ h => h) HK ?_
  refine t_qn (n := 10) 17 rfl (by kernel_rfl) (by kernel_rfl) (fun _ _ _ h => h) HK ?_
  refine t_qn (n := 9) 18 rfl (by kernel_rfl) (by kernel_rfl) (fun _ _ _ h => h) HK ?_
  refine t_qn (n := 8) 19 rfl (by kernel_rfl) (by kernel_rfl) (fun _ _ _ h => h) HK ?_
  refine t_qn (n := 7) 20 rfl (by kernel_rfl) (by kernel_rfl) (fun _ _ _ h => h) HK ?_
  refine t_qn (n := 6) 21 rfl (by kernel_rfl) (by kernel_rfl) (fun _ _ _ h => h) HK ?_
  refine t_qn (n := 5) 22 rfl (by kernel_rfl) (by kernel_rfl) (fun _ _ _ h => h) HK ?_
  refine t_qn (n := 4) 23 rfl (by kernel_rfl) (by kernel_rfl) (fun _ _ _ h => h) HK ?_
  refine t_qn (n := 3) 24 rfl (by kernel_rfl) (by kernel_rfl) (fun _ _ _ h => h) HK ?_
  refine t_q (n := 2) 25 (.bool true) rfl (by kernel_rfl) (by kernel_rfl) (fun _ _ _ h => h) (fun w' hk => (by kernel_rfl)) HK ?_
  refine t_q (n := 1) 26 (.bool true) rfl (by kernel_rfl) (by kernel_rfl) (fun _ _ _ h => h) (fun w' hk => (by kernel_rfl)) HK ?_
  refine t_q (n := 0) 27 (.bool true) rfl (by kernel_rfl) (by kernel_rfl) (fun _ _ _ h => h) (fun w' hk => (by kernel_rfl)) HK ?_
  refine t_done (by kernel_rfl) ?_
  clear HV HK
  refine x_then ?_
  refine wp_ret ?_
  refine ret_ (.bool true) (by kernel_rfl) ?_
  exact ⟨rfl, HS⟩

set_option maxRecDepth 100000 in
set_option maxHeartbeats 1000000 in
theorem dsame_nil_r (g : Nat) (n : Int) (W : World) (hz1 : W.cell? ⟨g, 1, none⟩ = some (.int .i64 n)) : Calls Tryd.prog 20 #[.pointer (some ⟨g, 0, none⟩), .pointer none] W fun e W' => e = .returned (.bool false) ∧ St W (owns []) W' [] := by
  have HS : St W (owns []) W [] := St.start W _
  refine calls_enter [.pointer (some ⟨g, 0, none⟩), .pointer none, undef, undef, undef, undef, undef, undef, undef, undef, undef, undef, undef, undef, undef, undef, undef, undef, undef, undef, undef, undef, undef, undef, undef, undef, undef, undef, undef, undef, undef, undef] Tryd.func20 rfl (by kernel_rfl) ?_
  refine wp_seq ?_
  refine wp_region_lit ?_
  refine ql (.bool false) (by kernel_rfl) (by kernel_rfl) ?_
  refine wpList_nil ?_
  refine x_then ?_
  refine wp_seq ?_
  refine t_start HS (fun _ => False) 28 (by kernel_rfl) rfl ?_
  intro W1 H_ HD_
  clear HD_
  replace HS : St W (owns []) W1 [] := H_
  clear H_
  have HV := HS
  have HK := Kpt.refl (fun _ => False) W1
  refine t_q (n := 27) 0 (.pointer (some ⟨g, 0, none⟩)) rfl (by kernel_rfl) (by kernel_rfl) (fun _ _ _ h => h) (fun w' hk => (by kernel_rfl)) HK ?_
  refine t_q (n := 26) 2 (.pointer none) rfl (by kernel_rfl) (by kernel_rfl) (fun _ _ _ h => h) (fun w' hk => (by kernel_rfl)) HK ?_
  refine t_c (n := 25) 1 (f := 22) (args := #[.pointer (some ⟨g, 0, none⟩)]) rfl (by kernel_rfl) (by kernel_rfl) (R_call #[.pointer (some ⟨g, 0, none⟩)] Tryd.func22 (by kernel_rfl) (by kernel_rfl) (by kernel_rfl)) ?_
  refine (dsize _ _ _ (HS.old0 hz1)).mono ?_
  rintro e W2 ⟨rfl, H_⟩
  refine ⟨_, rfl, HK.tr H_.kept.nil, ?_⟩
  replace HK := HK.tr H_.kept.nil
  replace HS : St W (owns []) W2 [] := HS.join (F := []) (G := []) H_
  clear H_
  refine t_c (n := 24) 3 (f := 22) (args := #[.pointer none]) rfl (by kernel_rfl) (by kernel_rfl) (R_call #[.pointer none] Tryd.func22 (by kernel_rfl) (by kernel_rfl) (by kernel_rfl)) ?_
  refine (dsize_nil _).mono ?_
  rintro e W3 ⟨rfl, H_⟩
  refine ⟨_, rfl, HK.tr H_.kept.nil, ?_⟩
  replace HK := HK.tr H_.kept.nil
  replace HS : St W (owns []) W3 [] := HS.join (F := []) (G := []) H_
  clear H_
  by_cases hc4 : n = (0 : Int)
  · skip
    refine t_q (n := 23) 4 (.bool true) rfl (by kernel_rfl) (by kernel_rfl) (fun _ _ _ h => h) (fun w' hk => (R_beq (b := (n == (0 : Int))) (by kernel_rfl) (beq_t (hc4)))) HK ?_
    refine t_q (n := 22) 5 (.bool true) rfl (by kernel_rfl) (by kernel_rfl) (fun _ _ _ h => h) (fun w' hk => (by kernel_rfl)) HK ?_
    refine t_q (n := 21) 6 (.pointer (some ⟨g, 0, none⟩)) rfl (by kernel_rfl) (by kernel_rfl) (fun _ _ _ h => h) (fun w' hk => (by kernel_rfl)) HK ?_
    refine t_q (n := 20) 7 (.bool false) rfl (by kernel_rfl) (by kernel_rfl) (fun _ _ _ h => h) (fun w' hk => (by kernel_rfl)) HK ?_
    refine t_q (n := 19) 8 (.pointer none) rfl (by kernel_rfl) (by kernel_rfl) (fun _ _ _ h => h) (fun w' hk => (by kernel_rfl)) HK ?_
    refine t_q (n := 18) 9 (.bool true) rfl (by kernel_rfl) (by kernel_rfl) (fun _ _ _ h => h) (fun w' hk => (by kernel_rfl)) HK ?_
    refine t_q (n := 17) 10 (.bool false) rfl (by kernel_rfl) (by kernel_rfl) (fun _ _ _ h => h) (fun w' hk => (by kernel_rfl)) HK ?_
    refine t_q (n := 16) 11 (.bool false) rfl (by kernel_rfl) (by kernel_rfl) (fun _ _ _ h => h) (fun w' hk => (by kernel_rfl)) HK ?_
    refine t_q (n := 15) 12 (.bool false) rfl (by kernel_rfl) (by kernel_rfl) (fun _ _ _ h => h) (fun w' hk => (by kernel_rfl)) HK ?_
    refine t_qn (n := 14) 13 rfl (by kernel_rfl) (by kernel_rfl) (fun _ _ _ h => h) HK ?_
    refine t_qn (n := 13) 14 rfl (by kernel_rfl) (by kernel_rfl) (fun _ _ _ h => h) HK ?_
    refine t_qn (n := 12) 15 rfl (by kernel_rfl) (by kernel_rfl) (fun _ _ _ h => h) HK ?_
    refine t_qn (n := 11) 16 rfl (by kernel_rfl) (by kernel_rfl) (fun _ _ _ h => h) HK ?_
    refine t_qn (n := 10) 17 rfl (by kernel_rfl) (by kernel_rfl) (fun _ _ _ h => h) HK ?_
    refine t_qn (n := 9) 18 rfl (by kernel_rfl) (by kernel_rfl) (fun _ _ _ h => h) HK ?_
    refine t_qn (n := 8) 19 rfl (by kernel_rfl) (by kernel_rfl) (fun _ _ _ h => h) HK ?_
    refine t_qn (n := 7) 20 rfl (by kernel_rfl) (by kernel_rfl) (fun _ _ _ h => h) HK ?_
    refine t_qn (n := 6) 21 rfl (by kernel_rfl) (by kernel_rfl) (fun _ _ _ h => h) HK ?_
    refine t_qn (n := 5) 22 rfl (by kernel_rfl) (by kernel_rfl) (fun _ _ _ h => h) HK ?_
    refine t_qn (n := 4) 23 rfl (by kernel_rfl) (by kernel_rfl) (fun _ _ _ h => h) HK ?_
    refine t_qn (n := 3) 24 rfl (by kernel_rfl) (by kernel_rfl) (fun _ _ _ h => h) HK ?_
    refine t_qn (n := 2) 25 rfl (by kernel_rfl) (by kernel_rfl) (fun _ _ _ h => h) HK ?_
    refine t_q (n := 1) 26 (.bool false) rfl (by kernel_rfl) (by kernel_rfl) (fun _ _ _ h => h) (fun w' hk => (by kernel_rfl)) HK ?_
    refine t_q (n := 0) 27 (.bool false) rfl (by kernel_rfl) (by kernel_rfl) (fun _ _ _ h => h) (fun w' hk => (by kernel_rfl)) HK ?_
    refine t_done (by kernel_rfl) ?_
    clear HV HK
    refine x_then ?_
    refine wp_ret ?_
    refine ret_ (.bool false) (by kernel_rfl) ?_
    exact ⟨rfl, HS⟩
  · skip
    refine t_q (n := 23) 4 (.bool false) rfl (by kernel_rfl) (by kernel_rfl) (fun _ _ _ h => h) (fun w' hk => (R_beq (b := (n == (0 : Int))) (by kernel_rfl) (beq_f (hc4)))) HK ?_
    refine t_q (n := 22) 5 (.bool false) rfl (by kernel_rfl) (by kernel_rfl) (fun _ _ _ h => h) (fun w' hk => (by kernel_rfl)) HK ?_
    refine t_qn (n := 21) 6 rfl (by kernel_rfl) (by kernel_rfl) (fun _ _ _ h => h) HK ?_
    refine t_qn (n := 20) 7 rfl (by kernel_rfl) (by kernel_rfl) (fun _ _ _ h => h) HK ?_
    refine t_qn (n := 19) 8 rfl (by kernel_rfl) (by kernel_rfl) (fun _ _ _ h => h) HK ?_
    refine t_qn (n := 18) 9 rfl (by kernel_rfl) (by kernel_rfl) (fun _ _ _ h => h) HK ?_
    refine t_qn (n := 17) 10 rfl (by kernel_rfl) (by kernel_rfl) (fun _ _ _ h => h) HK ?_
    refine t_q (n := 16) 11 (.bool false) rfl (by kernel_rfl) (by kernel_rfl) (fun _ _ _ h => h) (fun w' hk => (by kernel_rfl)) HK ?_
    refine t_q (n := 15) 12 (.bool false) rfl (by kernel_rfl) (by kernel_rfl) (fun _ _ _ h => h) (fun w' hk => (by kernel_rfl)) HK ?_
    refine t_qn (n := 14) 13 rfl (by kernel_rfl) (by kernel_rfl) (fun _ _ _ h => h) HK ?_
    refine t_qn (n := 13) 14 rfl (by kernel_rfl) (by kernel_rfl) (fun _ _ _ h => h) HK ?_
    refine t_qn (n := 12) 15 rfl (by kernel_rfl) (by kernel_rfl) (fun _ _ _ h => h) HK ?_
    refine t_qn (n := 11) 16 rfl (by kernel_rfl) (by kernel_rfl) (fun _ _ _ h => h) HK ?_
    refine t_qn (n := 10) 17 rfl (by kernel_rfl) (by kernel_rfl) (fun _ _ _ h => h) HK ?_
    refine t_qn (n := 9) 18 rfl (by kernel_rfl) (by kernel_rfl) (fun _ _ _ h => h) HK ?_
    refine t_qn (n := 8) 19 rfl (by kernel_rfl) (by kernel_rfl) (fun _ _ _ h => h) HK ?_
    refine t_qn (n := 7) 20 rfl (by kernel_rfl) (by kernel_rfl) (fun _ _ _ h => h) HK ?_
    refine t_qn (n := 6) 21 rfl (by kernel_rfl) (by kernel_rfl) (fun _ _ _ h => h) HK ?_
    refine t_qn (n := 5) 22 rfl (by kernel_rfl) (by kernel_rfl) (fun _ _ _ h => h) HK ?_
    refine t_qn (n := 4) 23 rfl (by kernel_rfl) (by kernel_rfl) (fun _ _ _ h => h) HK ?_
    refine t_qn (n := 3) 24 rfl (by kernel_rfl) (by kernel_rfl) (fun _ _ _ h => h) HK ?_
    refine t_qn (n := 2) 25 rfl (by kernel_rfl) (by kernel_rfl) (fun _ _ _ h => h) HK ?_
    refine t_q (n := 1) 26 (.bool false) rfl (by kernel_rfl) (by kernel_rfl) (fun _ _ _ h => h) (fun w' hk => (by kernel_rfl)) HK ?_
    refine t_q (n := 0) 27 (.bool false) rfl (by kernel_rfl) (by kernel_rfl) (fun _ _ _ h => h) (fun w' hk => (by kernel_rfl)) HK ?_
    refine t_done (by kernel_rfl) ?_
    clear HV HK
    refine x_then ?_
    refine wp_ret ?_
    refine ret_ (.bool false) (by kernel_rfl) ?_
    exact ⟨rfl, HS⟩

set_option maxRecDepth 100000 in
set_option maxHeartbeats 1000000 in
theorem dsame_nil_l (g : Nat) (n : Int) (W : World) (hz1 : W.cell? ⟨g, 1, none⟩ = some (.int .i64 n)) : Calls Tryd.prog 20 #[.pointer none, .pointer (some ⟨g, 0, none⟩)] W fun e W' => e = .returned (.bool false) ∧ St W (owns []) W' [] := by
  have HS : St W (owns []) W [] := St.start W _
  refine calls_enter [.pointer none, .pointer (some ⟨g, 0, none⟩), undef, undef, undef, undef, undef, undef, undef, undef, undef, undef, undef, undef, undef, undef, undef, undef, undef, undef, undef, undef, undef, undef, undef, undef, undef, undef, undef, undef, undef, undef] Tryd.func20 rfl (by kernel_rfl) ?_
  refine wp_seq ?_
  refine wp_region_lit ?_
  refine ql (.bool false) (by kernel_rfl) (by kernel_rfl) ?_
  refine wpList_nil ?_
  refine x_then ?_
  refine wp_seq ?_
  refine t_start HS (fun _ => False) 28 (by kernel_rfl) rfl ?_
  intro W1 H_ HD_
  clear HD_
  replace HS : St W (owns []) W1 [] := H_
  clear H_
  have HV := HS
  have HK := Kpt.refl (fun _ => False) W1
  refine t_q (n := 27) 0 (.pointer none) rfl (by kernel_rfl) (by kernel_rfl) (fun _ _ _ h => h) (fun w' hk => (by kernel_rfl)) HK ?_
  refine t_q (n := 26) 2 (.pointer (some ⟨g, 0, none⟩)) rfl (by kernel_rfl) (by kernel_rfl) (fun _ _ _ h => h) (fun w' hk => (by kernel_rfl)) HK ?_
  refine t_c (n := 25) 1 (f := 22) (args := #[.pointer none]) rfl (by kernel_rfl) (by kernel_rfl) (R_call #[.pointer none] Tryd.func22 (by kernel_rfl) (by kernel_rfl) (by kernel_rfl)) ?_
  refine (dsize_nil _).mono ?_
  rintro e W2 ⟨rfl, H_⟩
  refine ⟨_, rfl, HK.tr H_.kept.nil, ?_⟩
  replace HK := HK.tr H_.kept.nil
  replace HS : St W (owns []) W2 [] := HS.join (F := []) (G := []) H_
  clear H_
  refine t_c (n := 24) 3 (f := 22) (args := #[.pointer (some ⟨g, 0, none⟩)]) rfl (by kernel_rfl) (by kernel_rfl) (R_call #[.pointer (some ⟨g, 0, none⟩)] Tryd.func22 (by kernel_rfl) (by kernel_rfl) (by kernel_rfl)) ?_
  refine (dsize _ _ _ (HS.old0 hz1)).mono ?_
  rintro e W3 ⟨rfl, H_⟩
  refine ⟨_, rfl, HK.tr H_.kept.nil, ?_⟩
  replace HK := HK.tr H_.kept.nil
  replace HS : St W (owns []) W3 [] := HS.join (F := []) (G := []) H_
  clear H_
  by_cases hc4 : (0 : Int) = n
  · skip
    refine t_q (n := 23) 4 (.bool true) rfl (by kernel_rfl) (by kernel_rfl) (fun _ _ _ h => h) (fun w' hk => (R_beq (b := ((0 : Int) == n)) (by kernel_rfl) (beq_t (hc4)))) HK ?_
    refine t_q (n := 22) 5 (.bool true) rfl (by kernel_rfl) (by kernel_rfl) (fun _ _ _ h => h) (fun w' hk => (by kernel_rfl)) HK ?_
    refine t_q (n := 21) 6 (.pointer none) rfl (by kernel_rfl) (by kernel_rfl) (fun _ _ _ h => h) (fun w' hk => (by kernel_rfl)) HK ?_
    refine t_q (n := 20) 7 (.bool true) rfl (by kernel_rfl) (by kernel_rfl) (fun _ _ _ h => h) (fun w' hk => (by kernel_rfl)) HK ?_
    refine t_q (n := 19) 8 (.pointer (some ⟨g, 0, none⟩)) rfl (by kernel_rfl) (by kernel_rfl) (fun _ _ _ h => h) (fun w' hk => (by kernel_rfl)) HK ?_
    refine t_q (n := 18) 9 (.bool false) rfl (by kernel_rfl) (by kernel_rfl) (fun _ _ _ h => h) (fun w' hk => (by kernel_rfl)) HK ?_
    refine t_q (n := 17) 10 (.bool false) rfl (by kernel_rfl) (by kernel_rfl) (fun _ _ _ h => h) (fun w' hk => (by kernel_rfl)) HK ?_
    refine t_q (n := 16) 11 (.bool false) rfl (by kernel_rfl) (by kernel_rfl) (fun _ _ _ h => h) (fun w' hk => (by kernel_rfl)) HK ?_
    refine t_q (n := 15) 12 (.bool false) rfl (by kernel_rfl) (by kernel_rfl) (fun _ _ _ h => h) (fun w' hk => (by kernel_rfl)) HK ?_
    refine t_qn (n := 14) 13 rfl (by kernel_rfl) (by kernel_rfl) (fun _ _ _ h => h) HK ?_
    refine t_qn (n := 13) 14 rfl (by kernel_rfl) (by kernel_rfl) (fun _ _ _ h => h) HK ?_
    refine t_qn (n := 12) 15 rfl (by kernel_rfl) (by kernel_rfl) (fun _ _ _ h => h) HK ?_
    refine t_qn (n := 11) 16 rfl (by kernel_rfl) (by kernel_rfl) (fun _ _ _ h => h) HK ?_
    refine t_qn (n := 10) 17 rfl (by kernel_rfl) (by kernel_rfl) (fun _ _ _ h => h) HK ?_
    refine t_qn (n := 9) 18 rfl (by kernel_rfl) (by kernel_rfl) (fun _ _ _ h => h) HK ?_
    refine t_qn (n := 8) 19 rfl (by kernel_rfl) (by kernel_rfl) (fun _ _ _ h => h) HK ?_
    refine t_qn (n := 7) 20 rfl (by kernel_rfl) (by kernel_rfl) (fun _ _ _ h => h) HK ?_
    refine t_qn (n := 6) 21 rfl (by kernel_rfl) (by kernel_rfl) (fun _ _ _ h => h) HK ?_
    refine t_qn (n := 5) 22 rfl (by kernel_rfl) (by kernel_rfl) (fun _ _ _ h => h) HK ?_
    refine t_qn (n := 4) 23 rfl (by kernel_rfl) (by kernel_rfl) (fun _ _ _ h => h) HK ?_
    refine t_qn (n := 3) 24 rfl (by kernel_rfl) (by kernel_rfl) (fun _ _ _ h => h) HK ?_
    refine t_qn (n := 2) 25 rfl (by kernel_rfl) (by kernel_rfl) (fun _ _ _ h => h) HK ?_
    refine t_q (n := 1) 26 (.bool false) rfl (by kernel_rfl) (by kernel_rfl) (fun _ _ _ h => h) (fun w' hk => (by kernel_rfl)) HK ?_
    refine t_q (n := 0) 27 (.bool false) rfl (by kernel_rfl) (by kernel_rfl) (fun _ _ _ h => h) (fun w' hk => (by kernel_rfl)) HK ?_
    refine t_done (by kernel_rfl) ?_
    clear HV HK
    refine x_then ?_
    refine wp_ret ?_
    refine ret_ (.bool false) (by kernel_rfl) ?_
    exact ⟨rfl, HS⟩
  · skip
    refine t_q (n := 23) 4 (.bool false) rfl (by kernel_rfl) (by kernel_rfl) (fun _ _ _ h => h) (fun w' hk => (R_beq (b := ((0 : Int) == n)) (by kernel_rfl) (beq_f (hc4)))) HK ?_
    refine t_q (n := 22) 5 (.bool false) rfl (by kernel_rfl) (by kernel_rfl) (fun _ _ _ h => h) (fun w' hk => (by kernel_rfl)) HK ?_
    refine t_qn (n := 21) 6 rfl (by kernel_rfl) (by kernel_rfl) (fun _ _ _ h => h) HK ?_
    refine t_qn (n := 20) 7 rfl (by kernel_rfl) (by kernel_rfl) (fun _ _ _ h => h) HK ?_
    refine t_qn (n := 19) 8 rfl (by kernel_rfl) (by kernel_rfl) (fun _ _ _ h => h) HK ?_
    refine t_qn (n := 18) 9 rfl (by kernel_rfl) (by kernel_rfl) (fun _ _ _ h => h) HK ?_
    refine t_qn (n := 17) 10 rfl (by kernel_rfl) (by kernel_rfl) (fun _ _ _ h => h) HK ?_
    refine t_q (n := 16) 11 (.bool false) rfl (by kernel_rfl) (by kernel_rfl) (fun _ _ _ h => h) (fun w' hk => (by kernel_rfl)) HK ?_
    refine t_q (n := 15) 12 (.bool false) rfl (by kernel_rfl) (by kernel_rfl) (fun _ _ _ h => h) (fun w' hk => (by kernel_rfl)) HK ?_
    refine t_qn (n := 14) 13 rfl (by kernel_rfl) (by kernel_rfl) (fun _ _ _ h => h) HK ?_
    refine t_qn (n := 13) 14 rfl (by kernel_rfl) (by kernel_rfl) (fun _ _ _ h => h) HK ?_
    refine t_qn (n := 12) 15 rfl (by kernel_rfl) (by kernel_rfl) (fun _ _ _ h => h) HK ?_
    refine t_qn (n := 11) 16 rfl (by kernel_rfl) (by kernel_rfl) (fun _ _ _ h => h) HK ?_
    refine t_qn (n := 10) 17 rfl (by kernel_rfl) (by kernel_rfl) (fun _ _ _ h => h) HK ?_
    refine t_qn (n := 9) 18 rfl (by kernel_rfl) (by kernel_rfl) (fun _ _ _ h => h) HK ?_
    refine t_qn (n := 8) 19 rfl (by kernel_rfl) (by kernel_rfl) (fun _ _ _ h => h) HK ?_
    refine t_qn (n := 7) 20 rfl (by kernel_rfl) (by kernel_rfl) (fun _ _ _ h => h) HK ?_
    refine t_qn (n := 6) 21 rfl (by kernel_rfl) (by kernel_rfl) (fun _ _ _ h => h) HK ?_
    refine t_qn (n := 5) 22 rfl (by kernel_rfl) (by kernel_rfl) (fun _ _ _ h => h) HK ?_
    refine t_qn (n := 4) 23 rfl (by kernel_rfl) (by kernel_rfl) (fun _ _ _ h => h) HK ?_
    refine t_qn (n := 3) 24 rfl (by kernel_rfl) (by kernel_rfl) (fun _ _ _ h => h) HK ?_
    refine t_qn (n := 2) 25 rfl (by kernel_rfl) (by kernel_rfl) (fun _ _ _ h => h) HK ?_
    refine t_q (n := 1) 26 (.bool false) rfl (by kernel_rfl) (by kernel_rfl) (fun _ _ _ h => h) (fun w' hk => (by kernel_rfl)) HK ?_
    refine t_q (n := 0) 27 (.bool false) rfl (by kernel_rfl) (by kernel_rfl) (fun _ _ _ h => h) (fun w' hk => (by kernel_rfl)) HK ?_
    refine t_done (by kernel_rfl) ?_
    clear HV HK
    refine x_then ?_
    refine wp_ret ?_
    refine ret_ (.bool false) (by kernel_rfl) ?_
    exact ⟨rfl, HS⟩

set_option maxRecDepth 100000 in
set_option maxHeartbeats 1000000 in
theorem dall_nil (W : World) : Calls Tryd.prog 14 #[.pointer none] W fun e W' => ∃ b, e = .returned (.func (.func 28) #[] #[.pointer (some ⟨b, 0, none⟩)]) ∧ St W (owns []) W' [blk b [.pointer none] 24] := by
  have HS : St W (owns []) W [] := St.start W _
  refine calls_enter [.pointer none, undef, undef, undef] Tryd.func14 rfl (by kernel_rfl) ?_
  refine wp_seq ?_
  refine wp_region_lit ?_
  refine kb HS [.pointer none] 24 (fun g => .pointer (some ⟨g, 0, none⟩)) (by kernel_rfl) (by kernel_rfl) ?_
  intro g1 W2 H_
  replace HS : St W (owns []) W2 [blk g1 [.pointer none] 24] := H_
  clear H_
  refine ql (.nilFunc) (by kernel_rfl) (by kernel_rfl) ?_
  refine wpList_nil ?_
  refine x_then ?_
  refine wp_seq ?_
  refine wp_region_lit ?_
  refine ql (.func (.func 28) #[] #[.pointer (some ⟨g1, 0, none⟩)]) (by kernel_rfl) (by kernel_rfl) ?_
  refine ql (.func (.func 28) #[] #[.pointer (some ⟨g1, 0, none⟩)]) (by kernel_rfl) (by kernel_rfl) ?_
  refine wpList_nil ?_
  refine x_then ?_
  refine wp_ret ?_
  refine ret_ (.func (.func 28) #[] #[.pointer (some ⟨g1, 0, none⟩)]) (by kernel_rfl) ?_
  exact ⟨_, rfl, HS⟩


theorem TabAt64.put {W : World} {l : Nat} {o o' : Obj} (h : TabAt64 W) (hl : W.heap[l]? = some o) (ho : o.isCells = false) : TabAt64 (W.putObj l o') := fun j hj => by
  have hp := h j hj
  obtain ⟨o2, h2, h3⟩ := cells_of_cell hp
  refine (World.cell?_of_block (World.putObj_heap_other (fun e => ?_))).trans hp
  rw [e, hl] at h2; cases h2; rw [ho] at h3; cases h3
theorem TabAt64.below {W W' : World} (h : TabAt64 W) (hb : Below W.heap.size W W') : TabAt64 W' := fun j hj => (hb.cell (World.block_lt_of_cell? W _ (h j hj))).trans (h j hj)
/-- What the iterator over a set reads. -/
def DnT (b g c : Nat) (A : Option Addr) (ws : List Int) (n : Int) (W : World) : Prop := DnI b g c A ws n W ∧ TabAt64 W
theorem DnT.below {b g c : Nat} {A : Option Addr} {ws : List Int} {n : Int} {W W' : World} (h : DnT b g c A ws n W) (hb : Below W.heap.size W W') : DnT b g c A ws n W' := ⟨h.1.tail_ hb, h.2.below hb⟩
theorem DnT.put {b g c : Nat} {A : Option Addr} {ws : List Int} {n : Int} {W : World} {l : Nat} {o o' : Obj} (h : DnT b g c A ws n W) (hl : W.heap[l]? = some o) (ho : o.isCells = false) : DnT b g c A ws n (W.putObj l o') := ⟨h.1.put hl ho, h.2.put hl ho⟩
def DnK (b g c : Nat) (A : Option Addr) (ws : List Int) (n : Int) (W W' : World) : Prop := DnT b g c A ws n W → DnT b g c A ws n W'

theorem DnK.of {b g c : Nat} {A : Option Addr} {ws : List Int} {n : Int} {W X Y : World} (h : DnT b g c A ws n W) (hb : Below W.heap.size X Y) : DnK b g c A ws n X Y := fun ⟨⟨p1, p2, p3, p4⟩, p5⟩ =>
  ⟨⟨(hb.cell (World.block_lt_of_cell? W _ h.1.hb)).trans p1, (hb.cell (World.block_lt_of_cell? W _ h.1.h0)).trans p2, (hb.cell (World.block_lt_of_cell? W _ h.1.h1)).trans p3, fun j v hv => by
    obtain ⟨ad, e, hc⟩ := p4 j v hv
    obtain ⟨ad2, e2, hc2⟩ := h.1.hr j v hv
    rw [e] at e2; cases e2
    exact ⟨ad, e, (hb.cell (World.block_lt_of_cell? W _ hc2)).trans hc⟩⟩, fun j hj => (hb.cell (World.block_lt_of_cell? W _ (h.2 j hj))).trans (p5 j hj)⟩
def DnN (b : Nat) (W : World) : Prop := W.cell? ⟨b, 0, none⟩ = some (.pointer none)
theorem DnN.below {b : Nat} {W W' : World} (h : DnN b W) (hb : Below W.heap.size W W') : DnN b W' := (hb.cell (World.block_lt_of_cell? W _ h)).trans h
def DnNK (b : Nat) (W W' : World) : Prop := DnN b W → DnN b W'
theorem DnNK.of {b : Nat} {W X Y : World} (h : DnN b W) (hb : Below W.heap.size X Y) : DnNK b X Y := fun p => (hb.cell (World.block_lt_of_cell? W _ h)).trans p

set_option maxRecDepth 100000 in
set_option maxHeartbeats 1000000 in
theorem dall_stops_nil (b : Nat) (W : World) (hb : DnN b W) (m : Nat) : SeqStopsK Fence.wide m Tryd.prog 28 #[.pointer (some ⟨b, 0, none⟩)] encI (DnNK b) (fun xs => xs = []) (fun pre => pre <+: []) 0 W := by
  intro l J Jx WA hW hJ hJx hY h0
  have hb : WA.cell? ⟨b, 0, none⟩ = some (.pointer none) := DnN.below hb hW
  refine (callsIn_wide (n := m)).2 ?_
  have HS : St WA (owns []) WA [] := St.start WA _
  refine calls_enter [.func (.yield l) #[] #[], .pointer (some ⟨b, 0, none⟩), undef, undef, undef, undef, undef, undef, undef, undef, undef, undef, undef, undef, undef, undef, undef] Tryd.func28 rfl (by kernel_rfl) ?_
  refine wp_seq ?_
  refine wp_region_lit ?_
  refine ql (.pointer none) (by kernel_rfl) (R_load (p := ⟨b, 0, none⟩) (by kernel_rfl) (by kernel_rfl) (by kernel_rfl) (HS.old0 hb)) ?_
  refine qc (f := 23) (args := #[.pointer none, .int .i64 0]) (by kernel_rfl) (R_call #[.pointer none, .int .i64 0] Tryd.func23 (by kernel_rfl) (by kernel_rfl) (by kernel_rfl)) ?_
  refine (dnext_nil _ _).mono ?_
  rintro e W1 ⟨rfl, H_⟩
  refine ⟨_, rfl, ?_⟩
  replace HS : St WA (owns []) W1 [] := HS.join (F := []) (G := []) H_
  clear H_
  refine ql (.int .i64 (-1)) (by kernel_rfl) (by kernel_rfl) ?_
  refine wpList_nil ?_
  refine x_then ?_
  refine wp_block ?_
  refine wp_loop_ghost (fun kq a' w' => a' = Fr [.func (.yield l) #[] #[], .pointer (some ⟨b, 0, none⟩), undef, .int .i64 (-1), .pointer none, .int .i64 (-1), undef, undef, undef, undef, undef, undef, undef, undef, undef, undef, undef] ∧ kq = 0 ∧ St WA (owns []) w' []) 0 ⟨rfl, rfl, HS⟩ ?_
  clear HS
  rintro kq a' WB ⟨rfl, hk, HS⟩
  refine wp_seq ?_
  refine wp_seq ?_
  refine wp_region_yield ?_
  refine yq (.int .i64 (-1)) (by kernel_rfl) (by intro c_ h_; cases h_) (by kernel_rfl) ?_
  refine yq (.bool false) (by kernel_rfl) (by intro c_ h_; cases h_) (R_beq (b := decide ((-1 : Int) ≥ 0)) (by kernel_rfl) (by decide)) ?_
  refine yq (.bool false) (by kernel_rfl) (by intro c_ h_; cases h_) (by kernel_rfl) ?_
  refine yn (by kernel_rfl) ?_
  refine yn (by kernel_rfl) ?_
  refine yn (by kernel_rfl) ?_
  refine yq (.bool false) (by kernel_rfl) (by intro c_ h_; cases h_) (by kernel_rfl) ?_
  refine wpListIn_nil ?_
  refine x_then ?_
  refine wp_cond_false (by kernel_rfl) ?_
  refine wp_exit ?_
  refine x_thenE ?_
  refine x_thenE ?_
  refine x_hit ?_
  refine end_ (.tuple #[]) (by kernel_rfl) ?_
  exact ⟨⟨_, rfl⟩, .inl ⟨[], rfl, hJ _ _ _ none h0 HS.grownBy0 (fun _ h_ => nomatch h_)⟩⟩

set_option maxRecDepth 100000 in
set_option maxHeartbeats 1000000 in
theorem apS {Kp : World → World → Prop} {S_ Sp : List Int → Prop} {N : Nat} (gf : Nat) (lb : Array Value) (W : World) (hen : Enters Tryd.prog gf) (hseq : SeqStopsK Fence.wide 0 Tryd.prog gf lb encI Kp S_ Sp N W) (hKt : ∀ {X Y Z : World}, Kp X Y → Kp Y Z → Kp X Z) (hKp : ∀ X Y, Below W.heap.size X Y → Kp X Y) (hN : N ≤ 1000000000) : Calls Tryd.prog 37 #[.slice none 0 0, .func (.func gf) #[] lb] W fun e W' => ∃ A c xs, S_ xs ∧ e = .returned (.slice A xs.length c) ∧ St W (owns []) W' [row A xs.length c (ci .i64 xs) 3 1] := by
  have HS : St W (owns []) W [] := St.start W _
  refine calls_enterM [.slice none 0 0, .func (.func gf) #[] lb, undef, undef, undef, undef, undef, undef, undef, undef, undef, undef, undef] Tryd.func37 rfl (by kernel_rfl) ?_
  refine wp_seq ?_
  refine wp_region_lit ?_
  refine kb HS [.slice none 0 0] 22 (fun g => .pointer (some ⟨g, 0, none⟩)) (by kernel_rfl) (by kernel_rfl) ?_
  intro g1 W2 H_
  replace HS : St W (owns []) W2 [blk g1 [.slice none 0 0] 22] := H_
  clear H_
  refine ql (.slice none 0 0) (by kernel_rfl) (by kernel_rfl) ?_
  refine wpList_nil ?_
  refine x_then ?_
  refine wp_seq ?_
  refine wp_seq ?_
  refine wp_region_lit ?_
  refine ql (.func (.func gf) #[] lb) (by kernel_rfl) (by kernel_rfl) ?_
  refine wpList_nil ?_
  refine x_then ?_
  refine wp_block ?_
  replace HS : St W (owns []) W2 [row none 0 0 (ci .i64 ([])) 3 1, blk g1 [.slice none 0 0] 22] := (HS.nilRow 3 1).cast_ (by kernel_rfl)
  replace HS : St W (owns []) W2 [blk g1 [.slice none 0 0] 22, row none 0 0 (ci .i64 ([])) 3 1] := HS.perm (perm_ [1, 0] (by kernel_rfl) rfl)
  have HSb := HS
  refine rangeF (gf := gf) (lb := lb) (m := 0) (by kernel_rfl) hen (seq_later hseq (HS.kept.below owns_nil)) hKt (fun X l_ o_ o2_ hl_ _ _ _ => hKp _ _ (below_put (Nat.le_trans HSb.le hl_)))
    (fun pre w' => ∃ (A : Option Addr) (c : Nat), St W (owns []) w' [blk g1 [.slice A pre.length c] 22, row A pre.length c (ci .i64 pre) 3 1])
    (fun c pre w' => False)
    (fun s_ A_ B_ r_ h_ hg_ hr_ => by obtain ⟨A, c, HS⟩ := h_; exact ⟨A, c, HS.grown (cel_cons blk_cel (cel_cons row_cel cel_nil)) HSb.le hg_ hr_⟩)
    (fun _ _ _ _ _ h_ _ _ => h_)
    (by exact ⟨none, 0, HS⟩)
    (fun x => [.slice none 0 0, .func (.func gf) #[] lb, .pointer (some ⟨g1, 0, none⟩), undef, .slice none 0 0, .int .i64 x, .func (.func gf) #[] lb, .int .i64 x, undef, undef, undef, undef, undef]) ?_ ?_ ?_ ?_
  · intro l x W3 K_ hK_
    refine wp_region_litR (by kernel_rfl) (fun ⟨_, _, h_⟩ => (h_ : False)) ?_
    refine ql (.int .i64 x) (by kernel_rfl) (by kernel_rfl) ?_
    refine wpList_nil ?_
    refine x_then ?_
    exact hK_
  · intro l pre x W3 hI_ hlt
    obtain ⟨A, c, HS⟩ := hI_
    have HO := HS
    replace HS := HO.root
    refine wpIn_block ?_
    refine wp_region_litR (by kernel_rfl) (fun ⟨_, _, h_⟩ => (h_ : False)) ?_
    refine ql (.slice A pre.length c) (by kernel_rfl) (R_load (p := ⟨g1, 0, none⟩) (by kernel_rfl) (by kernel_rfl) (by kernel_rfl) (HS.cell (i := 0) (j := 0) rfl rfl)) ?_
    refine ql (.int .i64 x) (by kernel_rfl) (by kernel_rfl) ?_
    refine kl HS 1 [.int .i64 x] 3 1 (by kernel_rfl) (by kernel_rfl) rfl (by decide) ?_
    intro g4 W5 H_
    replace HS : St W3 (owns [blk g1 [.slice A pre.length c] 22, row A pre.length c (ci .i64 pre) 3 1]) W5 [row (some ⟨g4, 0, none⟩) 1 1 (ci .i64 ([x])) 3 1, blk g1 [.slice A pre.length c] 22, row A pre.length c (ci .i64 pre) 3 1] := H_.cast_ (by kernel_rfl)
    clear H_
    obtain ⟨xs9, xs9_⟩ : ∃ z_ : List Int, z_ = pre ++ ([x]) := ⟨_, rfl⟩
    have xs9l : xs9.length = pre.length + 1 := by rw [xs9_, List.length_append] <;> (try simp only [List.length_cons, List.length_nil]) <;> omega
    refine ka1 HS 2 rfl (Src.of_row HS (i := 0) rfl ci_one) [.int .i64 0] 8 xs9.length (ci .i64 xs9) (by omega) (by rw [xs9_, ci_app]) (by kernel_rfl) (by kernel_rfl) (by kernel_rfl) Tryd.underlying22 (by kernel_rfl) (by kernel_rfl) (by kernel_rfl) (by kernel_rfl) (by decide) (by omega) (by omega) ?_
    intro A6 c7 W8 H_
    replace HS : St W3 (owns [blk g1 [.slice A pre.length c] 22, row A pre.length c (ci .i64 pre) 3 1]) W8 [row (some ⟨g4, 0, none⟩) 1 1 (ci .i64 ([x])) 3 1, blk g1 [.slice A pre.length c] 22, row A6 xs9.length c7 (ci .i64 xs9) 3 1] := H_
    clear H_
    refine ks (v := .slice A6 xs9.length c7) HS 1 rfl (0) [.slice A6 xs9.length c7] (by kernel_rfl) (by kernel_rfl) (by kernel_rfl) (by kernel_rfl) (by kernel_rfl) (one_ (by kernel_rfl)) (Nat.le_of_ble_eq_true rfl) rfl ?_
    intro W10 H_
    replace HS : St W3 (owns [blk g1 [.slice A pre.length c] 22, row A pre.length c (ci .i64 pre) 3 1]) W10 [row (some ⟨g4, 0, none⟩) 1 1 (ci .i64 ([x])) 3 1, blk g1 [.slice A6 xs9.length c7] 22, row A6 xs9.length c7 (ci .i64 xs9) 3 1] := H_
    clear H_
    refine wpList_nil ?_
    refine x_inb ?_
    replace HS := HS.drop1
    subst xs9_
    have HF := HO.unroot HS
    exact og_n (HS.keepsFrom HO (cel_cons blk_cel (cel_cons row_cel cel_nil)) _) (hKp _ _ (HO.belowR HS)) ⟨A6, c7, HF⟩
  · intro D xs W3 hD hS hI_ hdf
    obtain ⟨A, c, HS⟩ := hI_
    replace HS := HS.addD (cel_cons blk_cel (cel_cons row_cel cel_nil)) (Nat.le_trans HSb.le hD) hdf
    refine x_inb ?_
    refine x_then ?_
    refine wp_seq ?_
    refine wp_region_lit ?_
    refine ql (.slice A xs.length c) (by kernel_rfl) (R_load (p := ⟨g1, 0, none⟩) (by kernel_rfl) (by kernel_rfl) (by kernel_rfl) (HS.cell (i := 1) (j := 0) rfl rfl)) ?_
    refine ql (.slice A xs.length c) (by kernel_rfl) (by kernel_rfl) ?_
    refine wpList_nil ?_
    refine x_then ?_
    refine wp_ret ?_
    refine retD_ HS ?_
    clear HS
    intro W11 HS
    refine ⟨.slice A xs.length c, by kernel_rfl, ?_⟩
    replace HS := HS.drop1
    exact ⟨A, c, xs, hS, rfl, HS⟩
  · intro D c pre W3 hD hSp hIx_ hdf
    exact hIx_.elim

set_option maxRecDepth 100000 in
set_option maxHeartbeats 1000000 in
theorem colS {Kp : World → World → Prop} {S_ Sp : List Int → Prop} {N : Nat} (gf : Nat) (lb : Array Value) (W : World) (hen : Enters Tryd.prog gf) (hseq : SeqStopsK Fence.wide 0 Tryd.prog gf lb encI Kp S_ Sp N W) (hKt : ∀ {X Y Z : World}, Kp X Y → Kp Y Z → Kp X Z) (hKp : ∀ X Y, Below W.heap.size X Y → Kp X Y) (hN : N ≤ 1000000000) : Calls Tryd.prog 36 #[.func (.func gf) #[] lb] W fun e W' => ∃ A c xs, S_ xs ∧ e = .returned (.slice A xs.length c) ∧ St W (owns []) W' [row A xs.length c (ci .i64 xs) 3 1] := by
  have HS : St W (owns []) W [] := St.start W _
  refine calls_enter [.func (.func gf) #[] lb, undef, undef, undef, undef] Tryd.func36 rfl (by kernel_rfl) ?_
  refine wp_seq ?_
  refine wp_region_lit ?_
  refine ql (.slice none 0 0) (by kernel_rfl) (by kernel_rfl) ?_
  refine wpList_nil ?_
  refine x_then ?_
  refine wp_seq ?_
  refine wp_region_lit ?_
  refine ql (.func (.func gf) #[] lb) (by kernel_rfl) (by kernel_rfl) ?_
  refine qc (f := 37) (args := #[.slice none 0 0, .func (.func gf) #[] lb]) (by kernel_rfl) (R_call #[.slice none 0 0, .func (.func gf) #[] lb] Tryd.func37 (by kernel_rfl) (by kernel_rfl) (by kernel_rfl)) ?_
  refine (apS gf lb _ hen hseq hKt hKp hN).mono ?_
  rintro e W1 ⟨A8, c8, xs8, hS8, rfl, H_⟩
  refine ⟨_, rfl, ?_⟩
  replace HS : St W (owns []) W1 [row A8 xs8.length c8 (ci .i64 xs8) 3 1] := HS.join (F := []) (G := [row A8 xs8.length c8 (ci .i64 xs8) 3 1]) H_
  clear H_
  refine ql (.slice A8 xs8.length c8) (by kernel_rfl) (by kernel_rfl) ?_
  refine wpList_nil ?_
  refine x_then ?_
  refine wp_ret ?_
  refine ret_ (.slice A8 xs8.length c8) (by kernel_rfl) ?_
  exact ⟨A8, c8, xs8, hS8, rfl, HS⟩

set_option maxRecDepth 100000 in
set_option maxHeartbeats 1000000 in
theorem dlist_nil (W : World) : Calls Tryd.prog 24 #[.pointer none] W fun e W' => ∃ A' c', e = .returned (.slice A' 0 c') ∧ St W (owns []) W' [row A' 0 c' (ci .i64 []) 3 1] := by
  have HS : St W (owns []) W [] := St.start W _
  refine calls_enter [.pointer none, undef, undef, undef, undef, undef] Tryd.func24 rfl (by kernel_rfl) ?_
  refine wp_seq ?_
  refine wp_region_lit ?_
  refine ql (.slice none 0 0) (by kernel_rfl) (by kernel_rfl) ?_
  refine wpList_nil ?_
  refine x_then ?_
  refine wp_seq ?_
  refine wp_region_lit ?_
  refine ql (.pointer none) (by kernel_rfl) (by kernel_rfl) ?_
  refine qc (f := 14) (args := #[.pointer none]) (by kernel_rfl) (R_call #[.pointer none] Tryd.func14 (by kernel_rfl) (by kernel_rfl) (by kernel_rfl)) ?_
  refine (dall_nil _).mono ?_
  rintro e W2 ⟨b1, rfl, H_⟩
  refine ⟨_, rfl, ?_⟩
  replace HS : St W (owns []) W2 [blk b1 [.pointer none] 24] := HS.join (F := []) (G := [blk b1 [.pointer none] 24]) H_
  clear H_
  refine qc (f := 36) (args := #[.func (.func 28) #[] #[.pointer (some ⟨b1, 0, none⟩)]]) (by kernel_rfl) (R_call #[.func (.func 28) #[] #[.pointer (some ⟨b1, 0, none⟩)]] Tryd.func36 (by kernel_rfl) (by kernel_rfl) (by kernel_rfl)) ?_
  have HDT : DnN b1 _ := HS.cell (i := 0) (j := 0) rfl rfl
  refine (colS 28 #[.pointer (some ⟨b1, 0, none⟩)] _ (enters_of Tryd.func28 (by kernel_rfl) rfl) (dall_stops_nil b1 _ HDT 0) (fun h_ k_ => fun x_ => k_ (h_ x_)) (fun X Y hb_ => DnNK.of HDT hb_) (by omega)).mono ?_
  rintro e W3 ⟨A8, c8, xs8, hS8, rfl, H_⟩
  have hS8 : [] = xs8 := hS8.symm
  subst hS8
  refine ⟨_, rfl, ?_⟩
  replace HS : St W (owns []) W3 [row A8 0 c8 (ci .i64 ([])) 3 1, blk b1 [.pointer none] 24] := HS.join (F := []) (G := [row A8 0 c8 (ci .i64 ([])) 3 1]) H_
  clear H_
  refine ql (.slice A8 0 c8) (by kernel_rfl) (by kernel_rfl) ?_
  refine wpList_nil ?_
  refine x_then ?_
  refine wp_ret ?_
  refine ret_ (.slice A8 0 c8) (by kernel_rfl) ?_
  replace HS : St W (owns []) W3 [row A8 0 c8 (ci .i64 ([])) 3 1] := St.tail (F := [blk b1 [.pointer none] 24]) (HS.perm (perm_ [1, 0] (by kernel_rfl) rfl))
  exact ⟨A8, c8, rfl, HS⟩


set_option maxRecDepth 100000 in
set_option maxHeartbeats 1000000 in
theorem dawake (W : World) (hT : TabAt64 W) : Calls Tryd.prog 6 #[] W fun e W' => e = .returned (.bool true) ∧ St W (owns []) W' [] := by
  have HS : St W (owns []) W [] := St.start W _
  refine calls_enter [undef, undef, undef, undef, undef, undef, undef, undef, undef, undef, undef, undef, undef, undef, undef, undef, undef, undef, undef, undef, undef, undef, undef, undef, undef, undef, undef, undef, undef, undef, undef, undef, undef, undef, undef, undef, undef, undef] Tryd.func6 rfl (by kernel_rfl) ?_
  refine wp_seq ?_
  refine wp_region_lit ?_
  refine ql (.bool false) (by kernel_rfl) (by kernel_rfl) ?_
  refine wpList_nil ?_
  refine x_then ?_
  refine wp_seq ?_
  refine wp_region_lit ?_
  refine qc (f := 7) (args := #[.int .i64 70]) (by kernel_rfl) (R_call #[.int .i64 70] Tryd.func7 (by kernel_rfl) (by kernel_rfl) (by kernel_rfl)) ?_
  refine (dnew_ok 70 _ (by omega) (by omega)).mono ?_
  rintro e W6 ⟨g1, a2, c3, ws4, rfl, H_, hR5⟩
  refine ⟨_, rfl, ?_⟩
  replace HS : St W (owns []) W6 [blk g1 [.slice (some ⟨a2, 0, none⟩) ws4.length c3, .int .i64 70] 53, row (some ⟨a2, 0, none⟩) ws4.length c3 (ci .u64 ws4) 54 1] := HS.join (F := []) (G := [blk g1 [.slice (some ⟨a2, 0, none⟩) ws4.length c3, .int .i64 70] 53, row (some ⟨a2, 0, none⟩) ws4.length c3 (ci .u64 ws4) 54 1]) H_
  clear H_
  refine ql (.tuple #[.pointer (some ⟨g1, 0, none⟩), .int .i64 0]) (by kernel_rfl) (by kernel_rfl) ?_
  refine ql (.pointer (some ⟨g1, 0, none⟩)) (by kernel_rfl) (by kernel_rfl) ?_
  refine ql (.int .i64 0) (by kernel_rfl) (by kernel_rfl) ?_
  refine ql (.pointer (some ⟨g1, 0, none⟩)) (by kernel_rfl) (by kernel_rfl) ?_
  refine ql (.int .i64 0) (by kernel_rfl) (by kernel_rfl) ?_
  refine wpList_nil ?_
  refine x_then ?_
  refine wp_seq ?_
  refine wp_region_lit ?_
  refine ql (.pointer (some ⟨g1, 0, none⟩)) (by kernel_rfl) (by kernel_rfl) ?_
  refine qc (f := 8) (args := #[.pointer (some ⟨g1, 0, none⟩), .int .i64 3]) (by kernel_rfl) (R_call #[.pointer (some ⟨g1, 0, none⟩), .int .i64 3] Tryd.func8 (by kernel_rfl) (by kernel_rfl) (by kernel_rfl)) ?_
  refine (dadd_new g1 c3 (some ⟨a2, 0, none⟩) ws4 70 [] 3 _ _ (St.focus (F := [blk g1 [.slice (some ⟨a2, 0, none⟩) ws4.length c3, .int .i64 70] 53, row (some ⟨a2, 0, none⟩) ws4.length c3 (ci .u64 ws4) 54 1]) HS) hR5 (by decide) (by decide) (by decide) (by decide)).mono ?_
  rintro e W9 ⟨ws8, rfl, H_, hR7⟩
  replace hR7 : Rep ws8 70 [3] := hR7
  refine ⟨_, rfl, ?_⟩
  replace HS : St W (owns []) W9 [blk g1 [.slice (some ⟨a2, 0, none⟩) ws8.length c3, .int .i64 70] 53, row (some ⟨a2, 0, none⟩) ws8.length c3 (ci .u64 ws8) 54 1] := HS.join (F := [blk g1 [.slice (some ⟨a2, 0, none⟩) ws4.length c3, .int .i64 70] 53, row (some ⟨a2, 0, none⟩) ws4.length c3 (ci .u64 ws4) 54 1]) (G := [blk g1 [.slice (some ⟨a2, 0, none⟩) ws8.length c3, .int .i64 70] 53, row (some ⟨a2, 0, none⟩) ws8.length c3 (ci .u64 ws8) 54 1]) H_
  clear H_
  refine ql (.pointer (some ⟨g1, 0, none⟩)) (by kernel_rfl) (by kernel_rfl) ?_
  refine qc (f := 8) (args := #[.pointer (some ⟨g1, 0, none⟩), .int .i64 69]) (by kernel_rfl) (R_call #[.pointer (some ⟨g1, 0, none⟩), .int .i64 69] Tryd.func8 (by kernel_rfl) (by kernel_rfl) (by kernel_rfl)) ?_
  refine (dadd_new g1 c3 (some ⟨a2, 0, none⟩) ws8 70 [3] 69 _ _ (St.focus (F := [blk g1 [.slice (some ⟨a2, 0, none⟩) ws8.length c3, .int .i64 70] 53, row (some ⟨a2, 0, none⟩) ws8.length c3 (ci .u64 ws8) 54 1]) HS) hR7 (by decide) (by decide) (by decide) (by decide)).mono ?_
  rintro e W12 ⟨ws11, rfl, H_, hR10⟩
  replace hR10 : Rep ws11 70 [3, 69] := hR10
  refine ⟨_, rfl, ?_⟩
  replace HS : St W (owns []) W12 [blk g1 [.slice (some ⟨a2, 0, none⟩) ws11.length c3, .int .i64 70] 53, row (some ⟨a2, 0, none⟩) ws11.length c3 (ci .u64 ws11) 54 1] := HS.join (F := [blk g1 [.slice (some ⟨a2, 0, none⟩) ws8.length c3, .int .i64 70] 53, row (some ⟨a2, 0, none⟩) ws8.length c3 (ci .u64 ws8) 54 1]) (G := [blk g1 [.slice (some ⟨a2, 0, none⟩) ws11.length c3, .int .i64 70] 53, row (some ⟨a2, 0, none⟩) ws11.length c3 (ci .u64 ws11) 54 1]) H_
  clear H_
  refine ql (.pointer (some ⟨g1, 0, none⟩)) (by kernel_rfl) (by kernel_rfl) ?_
  refine qc (f := 8) (args := #[.pointer (some ⟨g1, 0, none⟩), .int .i64 70]) (by kernel_rfl) (R_call #[.pointer (some ⟨g1, 0, none⟩), .int .i64 70] Tryd.func8 (by kernel_rfl) (by kernel_rfl) (by kernel_rfl)) ?_
  refine (dadd_out g1 c3 (some ⟨a2, 0, none⟩) ws11 70 [3, 69] 70 _ _ (St.focus (F := [blk g1 [.slice (some ⟨a2, 0, none⟩) ws11.length c3, .int .i64 70] 53, row (some ⟨a2, 0, none⟩) ws11.length c3 (ci .u64 ws11) 54 1]) HS) hR10 (by decide) (by decide)).mono ?_
  rintro e W14 ⟨rfl, H_⟩
  refine ⟨_, rfl, ?_⟩
  replace HS : St W (owns []) W14 [blk g1 [.slice (some ⟨a2, 0, none⟩) ws11.length c3, .int .i64 70] 53, row (some ⟨a2, 0, none⟩) ws11.length c3 (ci .u64 ws11) 54 1] := HS.join (F := [blk g1 [.slice (some ⟨a2, 0, none⟩) ws11.length c3, .int .i64 70] 53, row (some ⟨a2, 0, none⟩) ws11.length c3 (ci .u64 ws11) 54 1]) (G := [blk g1 [.slice (some ⟨a2, 0, none⟩) ws11.length c3, .int .i64 70] 53, row (some ⟨a2, 0, none⟩) ws11.length c3 (ci .u64 ws11) 54 1]) H_
  clear H_
  refine ql (.bool true) (by kernel_rfl) (by kernel_rfl) ?_
  refine ql (.bool true) (by kernel_rfl) (by kernel_rfl) ?_
  refine ql (.bool false) (by kernel_rfl) (by kernel_rfl) ?_
  refine wpList_nil ?_
  refine x_then ?_
  refine wp_seq ?_
  refine wp_region_lit ?_
  refine ql (.int .i64 0) (by kernel_rfl) (by kernel_rfl) ?_
  refine ql (.bool true) (by kernel_rfl) (R_beq (b := ((0 : Int) == 0)) (by kernel_rfl) (by decide)) ?_
  refine ql (.bool true) (by kernel_rfl) (by kernel_rfl) ?_
  refine ql (.bool true) (by kernel_rfl) (by kernel_rfl) ?_
  refine ql (.bool true) (by kernel_rfl) (by kernel_rfl) ?_
  refine ql (.bool true) (by kernel_rfl) (by kernel_rfl) ?_
  refine ql (.bool true) (by kernel_rfl) (by kernel_rfl) ?_
  refine ql (.bool true) (by kernel_rfl) (by kernel_rfl) ?_
  refine ql (.bool true) (by kernel_rfl) (by kernel_rfl) ?_
  refine ql (.bool false) (by kernel_rfl) (by kernel_rfl) ?_
  refine ql (.bool true) (by kernel_rfl) (by kernel_rfl) ?_
  refine ql (.bool true) (by kernel_rfl) (by kernel_rfl) ?_
  refine ql (.bool true) (by kernel_rfl) (by kernel_rfl) ?_
  refine ql (.pointer (some ⟨g1, 0, none⟩)) (by kernel_rfl) (by kernel_rfl) ?_
  refine qc (f := 23) (args := #[.pointer (some ⟨g1, 0, none⟩), .int .i64 4]) (by kernel_rfl) (R_call #[.pointer (some ⟨g1, 0, none⟩), .int .i64 4] Tryd.func23 (by kernel_rfl) (by kernel_rfl) (by kernel_rfl)) ?_
  refine (dnext g1 c3 (some ⟨a2, 0, none⟩) ws11 70 ([3, 69]) 4 _ (HS.cell (i := 0) (j := 0) rfl rfl) (HS.cell (i := 0) (j := 1) rfl rfl) (Rd.row HS (i := 1) rfl) hR10 (by omega) (hT.old0 HS)).mono ?_
  rintro e W15 ⟨rfl, H_⟩
  rw [show nxt [3, 69] 4 = 69 by decide]
  refine ⟨_, rfl, ?_⟩
  replace HS : St W (owns []) W15 [blk g1 [.slice (some ⟨a2, 0, none⟩) ws11.length c3, .int .i64 70] 53, row (some ⟨a2, 0, none⟩) ws11.length c3 (ci .u64 ws11) 54 1] := HS.join (F := []) (G := []) H_
  clear H_
  refine ql (.bool true) (by kernel_rfl) (R_beq (b := ((69 : Int) == 69)) (by kernel_rfl) (by decide)) ?_
  refine ql (.bool true) (by kernel_rfl) (by kernel_rfl) ?_
  refine ql (.bool true) (by kernel_rfl) (by kernel_rfl) ?_
  refine ql (.pointer (some ⟨g1, 0, none⟩)) (by kernel_rfl) (by kernel_rfl) ?_
  refine qc (f := 12) (args := #[.pointer (some ⟨g1, 0, none⟩)]) (by kernel_rfl) (R_call #[.pointer (some ⟨g1, 0, none⟩)] Tryd.func12 (by kernel_rfl) (by kernel_rfl) (by kernel_rfl)) ?_
  refine (dcount g1 c3 (some ⟨a2, 0, none⟩) ws11 70 ([3, 69]) _ (HS.cell (i := 0) (j := 0) rfl rfl) (HS.cell (i := 0) (j := 1) rfl rfl) (Rd.row HS (i := 1) rfl) hR10 (by omega)).mono ?_
  rintro e W16 ⟨rfl, H_⟩
  rw [show (([3, 69] : List Int).length : Int) = 2 from rfl]
  refine ⟨_, rfl, ?_⟩
  replace HS : St W (owns []) W16 [blk g1 [.slice (some ⟨a2, 0, none⟩) ws11.length c3, .int .i64 70] 53, row (some ⟨a2, 0, none⟩) ws11.length c3 (ci .u64 ws11) 54 1] := HS.join (F := []) (G := []) H_
  clear H_
  refine ql (.bool true) (by kernel_rfl) (R_beq (b := ((2 : Int) == 2)) (by kernel_rfl) (by decide)) ?_
  refine ql (.bool true) (by kernel_rfl) (by kernel_rfl) ?_
  refine ql (.bool true) (by kernel_rfl) (by kernel_rfl) ?_
  refine wpList_nil ?_
  refine x_then ?_
  refine wp_ret ?_
  refine ret_ (.bool true) (by kernel_rfl) ?_
  replace HS := HS.drop1
  replace HS := HS.drop1
  exact ⟨rfl, HS⟩


set_option maxRecDepth 100000 in
set_option maxHeartbeats 1000000 in
theorem dwithin_nil (h : Nat) (W : World) : Calls Tryd.prog 10 #[.pointer none, .pointer (some ⟨h, 0, none⟩)] W fun e W' => e = .returned (.bool true) ∧ St W (owns []) W' [] := by
  have HS : St W (owns []) W [] := St.start W _
  refine calls_enterM [.pointer none, .pointer (some ⟨h, 0, none⟩), undef, undef, undef, undef, undef, undef, undef, undef, undef, undef, undef] Tryd.func10 rfl (by kernel_rfl) ?_
  refine wp_seq ?_
  refine wp_region_lit ?_
  refine kb HS [.pointer (some ⟨h, 0, none⟩)] 24 (fun g => .pointer (some ⟨g, 0, none⟩)) (by kernel_rfl) (by kernel_rfl) ?_
  intro g1 W2 H_
  replace HS : St W (owns []) W2 [blk g1 [.pointer (some ⟨h, 0, none⟩)] 24] := H_
  clear H_
  refine kb HS [.bool false] 4 (fun g => .pointer (some ⟨g, 0, none⟩)) (by kernel_rfl) (by kernel_rfl) ?_
  intro g3 W4 H_
  replace HS : St W (owns []) W4 [blk g3 [.bool false] 4, blk g1 [.pointer (some ⟨h, 0, none⟩)] 24] := H_
  clear H_
  refine wpList_nil ?_
  refine x_then ?_
  refine wp_seq ?_
  refine wp_seq ?_
  refine wp_region_lit ?_
  refine ql (.pointer none) (by kernel_rfl) (by kernel_rfl) ?_
  refine qc (f := 14) (args := #[.pointer none]) (by kernel_rfl) (R_call #[.pointer none] Tryd.func14 (by kernel_rfl) (by kernel_rfl) (by kernel_rfl)) ?_
  refine (dall_nil _).mono ?_
  rintro e W6 ⟨b5, rfl, H_⟩
  refine ⟨_, rfl, ?_⟩
  replace HS : St W (owns []) W6 [blk b5 [.pointer none] 24, blk g3 [.bool false] 4, blk g1 [.pointer (some ⟨h, 0, none⟩)] 24] := HS.join (F := []) (G := [blk b5 [.pointer none] 24]) H_
  clear H_
  refine wpList_nil ?_
  refine x_then ?_
  refine wp_block ?_
  have HDT : DnN b5 _ := HS.cell (i := 0) (j := 0) rfl rfl
  have HSb := HS
  refine rangeF (gf := 28) (lb := #[.pointer (some ⟨b5, 0, none⟩)]) (m := 0) (by kernel_rfl) (enters_of Tryd.func28 (by kernel_rfl) rfl) (dall_stops_nil b5 _ HDT 0) (fun h_ k_ => fun x_ => k_ (h_ x_)) (fun X l_ o_ o2_ hl_ _ _ _ => DnNK.of HDT (below_put hl_))
    (fun pre w' => St W (owns []) w' [blk b5 [.pointer none] 24, blk g3 [.bool false] 4, blk g1 [.pointer (some ⟨h, 0, none⟩)] 24])
    (fun c pre w' => False)
    (fun s_ A_ B_ r_ h_ hg_ hr_ => by exact St.grown h_ (cel_cons blk_cel (cel_cons blk_cel (cel_cons blk_cel cel_nil))) HSb.le hg_ hr_)
    (fun _ _ _ _ _ h_ _ _ => h_)
    (by exact HS)
    (fun x => [.pointer none, .pointer (some ⟨h, 0, none⟩), undef, .pointer (some ⟨g1, 0, none⟩), .pointer (some ⟨g3, 0, none⟩), .int .i64 x, .pointer none, .func (.func 28) #[] #[.pointer (some ⟨b5, 0, none⟩)], .int .i64 x, undef, undef, undef, undef]) ?_ ?_ ?_ ?_
  · intro l x W7 K_ hK_
    refine wp_region_litR (by kernel_rfl) (fun ⟨_, _, h_⟩ => (h_ : False)) ?_
    refine ql (.int .i64 x) (by kernel_rfl) (by kernel_rfl) ?_
    refine wpList_nil ?_
    refine x_then ?_
    exact hK_
  · intro l pre x W7 hI_ hlt
    replace HS := hI_
    have HO := HS
    replace HS := HO.root
    exact absurd hlt (by simp)
  · intro D xs W7 hD hS hI_ hdf
    replace HS := hI_
    replace HS := HS.addD (cel_cons blk_cel (cel_cons blk_cel (cel_cons blk_cel cel_nil))) (Nat.le_trans HSb.le hD) hdf
    refine x_inb ?_
    refine x_then ?_
    refine wp_seq ?_
    refine wp_region_lit ?_
    refine ks (v := .bool true) HS 2 rfl (0) [.bool true] (by kernel_rfl) (by kernel_rfl) (by kernel_rfl) (by kernel_rfl) (by kernel_rfl) (one_ (by kernel_rfl)) (Nat.le_of_ble_eq_true rfl) rfl ?_
    intro W8 H_
    replace HS : St W (owns []) W8 [dfr D, blk b5 [.pointer none] 24, blk g3 [.bool true] 4, blk g1 [.pointer (some ⟨h, 0, none⟩)] 24] := H_
    clear H_
    refine wpList_nil ?_
    refine x_then ?_
    refine wp_ret ?_
    refine retD_ HS ?_
    clear HS
    intro W9 HS
    refine ⟨.bool true, res1 rfl (oneRes_one (p := ⟨g3, 0, none⟩) (by kernel_rfl) (by kernel_rfl) (by kernel_rfl) (HS.cell (i := 1) (j := 0) rfl rfl)), ?_⟩
    replace HS := HS.drop1
    replace HS := HS.drop1
    replace HS := HS.drop1
    exact ⟨rfl, HS⟩
  · intro D c pre W7 hD hSp hIx_ hdf
    exact hIx_.elim

set_option maxRecDepth 100000 in
set_option maxHeartbeats 1000000 in
theorem lDenseNone (i : Int) (W : World) (hT : TabAt64 W) : Calls Tryd.prog 5 #[.int .i64 i] W fun e W' => e = .returned (.bool true) ∧ St W (owns []) W' [] := by
  have HS : St W (owns []) W [] := St.start W _
  refine calls_enter ((.int .i64 i) :: undef :: undef :: undef :: undef :: undef :: undef :: undef :: undef :: undef :: undef :: undef :: undef :: undef :: undef :: undef :: undef :: undef :: undef :: undef :: undef :: undef :: undef :: undef :: undef :: undef :: undef :: undef :: undef :: undef :: undef :: undef :: undef :: undef :: undef :: undef :: undef :: undef :: undef :: undef :: undef :: undef :: undef :: undef :: undef :: undef :: undef :: undef :: undef :: undef :: undef :: undef :: undef :: undef :: undef :: undef :: undef :: undef :: undef :: undef :: undef :: undef :: undef :: undef :: undef :: undef :: undef :: undef :: undef :: undef :: undef :: undef :: undef :: undef :: undef :: undef :: undef :: undef :: undef :: undef :: undef :: []) Tryd.func5 rfl (by kernel_rfl) ?_
  refine wp_seq ?_
  refine wp_region_lit ?_
  refine ql (.bool false) (by kernel_rfl) (by kernel_rfl) ?_
  refine wpList_nil ?_
  refine x_then ?_
  refine wp_seq ?_
  refine wp_region_lit ?_
  refine ql (.pointer none) (by kernel_rfl) (by kernel_rfl) ?_
  refine wpList_nil ?_
  refine x_then ?_
  refine wp_seq ?_
  refine wp_region_lit ?_
  refine qc (f := 7) (args := #[.int .i64 5]) (by kernel_rfl) (R_call #[.int .i64 5] Tryd.func7 (by kernel_rfl) (by kernel_rfl) (by kernel_rfl)) ?_
  refine (dnew_ok 5 _ (by omega) (by omega)).mono ?_
  rintro e W6 ⟨g1, a2, c3, ws4, rfl, H_, hR5⟩
  refine ⟨_, rfl, ?_⟩
  replace HS : St W (owns []) W6 [blk g1 [.slice (some ⟨a2, 0, none⟩) ws4.length c3, .int .i64 5] 53, row (some ⟨a2, 0, none⟩) ws4.length c3 (ci .u64 ws4) 54 1] := HS.join (F := []) (G := [blk g1 [.slice (some ⟨a2, 0, none⟩) ws4.length c3, .int .i64 5] 53, row (some ⟨a2, 0, none⟩) ws4.length c3 (ci .u64 ws4) 54 1]) H_
  clear H_
  refine ql (.tuple #[.pointer (some ⟨g1, 0, none⟩), .int .i64 0]) (by kernel_rfl) (by kernel_rfl) ?_
  refine ql (.pointer (some ⟨g1, 0, none⟩)) (by kernel_rfl) (by kernel_rfl) ?_
  refine ql (.int .i64 0) (by kernel_rfl) (by kernel_rfl) ?_
  refine ql (.pointer (some ⟨g1, 0, none⟩)) (by kernel_rfl) (by kernel_rfl) ?_
  refine ql (.int .i64 0) (by kernel_rfl) (by kernel_rfl) ?_
  refine wpList_nil ?_
  refine x_then ?_
  refine wp_seq ?_
  refine wp_seq ?_
  refine wp_region_lit ?_
  refine ql (.pointer none) (by kernel_rfl) (by kernel_rfl) ?_
  refine qc (f := 22) (args := #[.pointer none]) (by kernel_rfl) (R_call #[.pointer none] Tryd.func22 (by kernel_rfl) (by kernel_rfl) (by kernel_rfl)) ?_
  refine (dsize_nil _).mono ?_
  rintro e W7 ⟨rfl, H_⟩
  refine ⟨_, rfl, ?_⟩
  replace HS : St W (owns []) W7 [blk g1 [.slice (some ⟨a2, 0, none⟩) ws4.length c3, .int .i64 5] 53, row (some ⟨a2, 0, none⟩) ws4.length c3 (ci .u64 ws4) 54 1] := HS.join (F := []) (G := []) H_
  clear H_
  refine ql (.bool false) (by kernel_rfl) (R_beq (b := ((0 : Int) != 0)) (by kernel_rfl) (by decide)) ?_
  refine ql (.bool false) (by kernel_rfl) (by kernel_rfl) ?_
  refine ql (.pointer none) (by kernel_rfl) (by kernel_rfl) ?_
  refine ql (.int .i64 i) (by kernel_rfl) (by kernel_rfl) ?_
  refine qc (f := 15) (args := #[.pointer none, .int .i64 i]) (by kernel_rfl) (R_call #[.pointer none, .int .i64 i] Tryd.func15 (by kernel_rfl) (by kernel_rfl) (by kernel_rfl)) ?_
  refine (dhas_nil _ _).mono ?_
  rintro e W8 ⟨rfl, H_⟩
  refine ⟨_, rfl, ?_⟩
  replace HS : St W (owns []) W8 [blk g1 [.slice (some ⟨a2, 0, none⟩) ws4.length c3, .int .i64 5] 53, row (some ⟨a2, 0, none⟩) ws4.length c3 (ci .u64 ws4) 54 1] := HS.join (F := []) (G := []) H_
  clear H_
  refine ql (.bool false) (by kernel_rfl) (by kernel_rfl) ?_
  refine ql (.bool false) (by kernel_rfl) (by kernel_rfl) ?_
  refine ql (.pointer none) (by kernel_rfl) (by kernel_rfl) ?_
  refine ql (.int .i64 i) (by kernel_rfl) (by kernel_rfl) ?_
  refine qc (f := 8) (args := #[.pointer none, .int .i64 i]) (by kernel_rfl) (R_call #[.pointer none, .int .i64 i] Tryd.func8 (by kernel_rfl) (by kernel_rfl) (by kernel_rfl)) ?_
  refine (dadd_nil _ _).mono ?_
  rintro e W9 ⟨rfl, H_⟩
  refine ⟨_, rfl, ?_⟩
  replace HS : St W (owns []) W9 [blk g1 [.slice (some ⟨a2, 0, none⟩) ws4.length c3, .int .i64 5] 53, row (some ⟨a2, 0, none⟩) ws4.length c3 (ci .u64 ws4) 54 1] := HS.join (F := []) (G := []) H_
  clear H_
  refine ql (.bool false) (by kernel_rfl) (by kernel_rfl) ?_
  refine ql (.bool false) (by kernel_rfl) (by kernel_rfl) ?_
  refine ql (.pointer none) (by kernel_rfl) (by kernel_rfl) ?_
  refine ql (.int .i64 i) (by kernel_rfl) (by kernel_rfl) ?_
  refine qc (f := 13) (args := #[.pointer none, .int .i64 i]) (by kernel_rfl) (R_call #[.pointer none, .int .i64 i] Tryd.func13 (by kernel_rfl) (by kernel_rfl) (by kernel_rfl)) ?_
  refine (ddel_nil _ _).mono ?_
  rintro e W10 ⟨rfl, H_⟩
  refine ⟨_, rfl, ?_⟩
  replace HS : St W (owns []) W10 [blk g1 [.slice (some ⟨a2, 0, none⟩) ws4.length c3, .int .i64 5] 53, row (some ⟨a2, 0, none⟩) ws4.length c3 (ci .u64 ws4) 54 1] := HS.join (F := []) (G := []) H_
  clear H_
  refine ql (.bool false) (by kernel_rfl) (by kernel_rfl) ?_
  refine ql (.bool false) (by kernel_rfl) (by kernel_rfl) ?_
  refine ql (.pointer none) (by kernel_rfl) (by kernel_rfl) ?_
  refine ql (.pointer (some ⟨g1, 0, none⟩)) (by kernel_rfl) (by kernel_rfl) ?_
  refine qc (f := 11) (args := #[.pointer none, .pointer (some ⟨g1, 0, none⟩)]) (by kernel_rfl) (R_call #[.pointer none, .pointer (some ⟨g1, 0, none⟩)] Tryd.func11 (by kernel_rfl) (by kernel_rfl) (by kernel_rfl)) ?_
  refine (dor_nil_l 0 g1 _).mono ?_
  rintro e W11 ⟨rfl, H_⟩
  refine ⟨_, rfl, ?_⟩
  replace HS : St W (owns []) W11 [blk g1 [.slice (some ⟨a2, 0, none⟩) ws4.length c3, .int .i64 5] 53, row (some ⟨a2, 0, none⟩) ws4.length c3 (ci .u64 ws4) 54 1] := HS.join (F := []) (G := []) H_
  clear H_
  refine ql (.bool false) (by kernel_rfl) (by kernel_rfl) ?_
  refine ql (.bool false) (by kernel_rfl) (by kernel_rfl) ?_
  refine ql (.pointer (some ⟨g1, 0, none⟩)) (by kernel_rfl) (by kernel_rfl) ?_
  refine ql (.pointer none) (by kernel_rfl) (by kernel_rfl) ?_
  refine qc (f := 11) (args := #[.pointer (some ⟨g1, 0, none⟩), .pointer none]) (by kernel_rfl) (R_call #[.pointer (some ⟨g1, 0, none⟩), .pointer none] Tryd.func11 (by kernel_rfl) (by kernel_rfl) (by kernel_rfl)) ?_
  refine (dor_nil_r g1 0 _).mono ?_
  rintro e W12 ⟨rfl, H_⟩
  refine ⟨_, rfl, ?_⟩
  replace HS : St W (owns []) W12 [blk g1 [.slice (some ⟨a2, 0, none⟩) ws4.length c3, .int .i64 5] 53, row (some ⟨a2, 0, none⟩) ws4.length c3 (ci .u64 ws4) 54 1] := HS.join (F := []) (G := []) H_
  clear H_
  refine ql (.bool false) (by kernel_rfl) (by kernel_rfl) ?_
  refine ql (.bool false) (by kernel_rfl) (by kernel_rfl) ?_
  refine ql (.pointer none) (by kernel_rfl) (by kernel_rfl) ?_
  refine qc (f := 12) (args := #[.pointer none]) (by kernel_rfl) (R_call #[.pointer none] Tryd.func12 (by kernel_rfl) (by kernel_rfl) (by kernel_rfl)) ?_
  refine (dcount_nil _).mono ?_
  rintro e W13 ⟨rfl, H_⟩
  refine ⟨_, rfl, ?_⟩
  replace HS : St W (owns []) W13 [blk g1 [.slice (some ⟨a2, 0, none⟩) ws4.length c3, .int .i64 5] 53, row (some ⟨a2, 0, none⟩) ws4.length c3 (ci .u64 ws4) 54 1] := HS.join (F := []) (G := []) H_
  clear H_
  refine ql (.bool false) (by kernel_rfl) (R_beq (b := ((0 : Int) != 0)) (by kernel_rfl) (by decide)) ?_
  refine ql (.bool false) (by kernel_rfl) (by kernel_rfl) ?_
  refine ql (.bool false) (by kernel_rfl) (by kernel_rfl) ?_
  refine ql (.pointer none) (by kernel_rfl) (by kernel_rfl) ?_
  refine ql (.int .i64 i) (by kernel_rfl) (by kernel_rfl) ?_
  refine qc (f := 23) (args := #[.pointer none, .int .i64 i]) (by kernel_rfl) (R_call #[.pointer none, .int .i64 i] Tryd.func23 (by kernel_rfl) (by kernel_rfl) (by kernel_rfl)) ?_
  refine (dnext_nil _ _).mono ?_
  rintro e W14 ⟨rfl, H_⟩
  refine ⟨_, rfl, ?_⟩
  replace HS : St W (owns []) W14 [blk g1 [.slice (some ⟨a2, 0, none⟩) ws4.length c3, .int .i64 5] 53, row (some ⟨a2, 0, none⟩) ws4.length c3 (ci .u64 ws4) 54 1] := HS.join (F := []) (G := []) H_
  clear H_
  refine ql (.bool false) (by kernel_rfl) (R_beq (b := ((-1 : Int) != -1)) (by kernel_rfl) (by decide)) ?_
  refine ql (.bool false) (by kernel_rfl) (by kernel_rfl) ?_
  refine ql (.bool false) (by kernel_rfl) (by kernel_rfl) ?_
  refine ql (.pointer none) (by kernel_rfl) (by kernel_rfl) ?_
  refine qc (f := 24) (args := #[.pointer none]) (by kernel_rfl) (R_call #[.pointer none] Tryd.func24 (by kernel_rfl) (by kernel_rfl) (by kernel_rfl)) ?_
  refine (dlist_nil _).mono ?_
  rintro e W17 ⟨A15, c16, rfl, H_⟩
  refine ⟨_, rfl, ?_⟩
  replace HS : St W (owns []) W17 [row A15 0 c16 (ci .i64 ([])) 3 1, blk g1 [.slice (some ⟨a2, 0, none⟩) ws4.length c3, .int .i64 5] 53, row (some ⟨a2, 0, none⟩) ws4.length c3 (ci .u64 ws4) 54 1] := HS.join (F := []) (G := [row A15 0 c16 (ci .i64 ([])) 3 1]) H_
  clear H_
  refine ql (.int .i64 0) (by kernel_rfl) (by kernel_rfl) ?_
  refine ql (.bool false) (by kernel_rfl) (R_beq (b := decide ((0 : Int) > 0)) (by kernel_rfl) (by decide)) ?_
  refine ql (.bool false) (by kernel_rfl) (by kernel_rfl) ?_
  refine ql (.bool false) (by kernel_rfl) (by kernel_rfl) ?_
  refine ql (.pointer none) (by kernel_rfl) (by kernel_rfl) ?_
  refine qc (f := 9) (args := #[.pointer none]) (by kernel_rfl) (R_call #[.pointer none] Tryd.func9 (by kernel_rfl) (by kernel_rfl) (by kernel_rfl)) ?_
  refine (dclone_nil _).mono ?_
  rintro e W18 ⟨rfl, H_⟩
  refine ⟨_, rfl, ?_⟩
  replace HS : St W (owns []) W18 [row A15 0 c16 (ci .i64 ([])) 3 1, blk g1 [.slice (some ⟨a2, 0, none⟩) ws4.length c3, .int .i64 5] 53, row (some ⟨a2, 0, none⟩) ws4.length c3 (ci .u64 ws4) 54 1] := HS.join (F := []) (G := []) H_
  clear H_
  refine ql (.bool false) (by kernel_rfl) (by kernel_rfl) ?_
  refine ql (.bool false) (by kernel_rfl) (by kernel_rfl) ?_
  refine wpList_nil ?_
  refine x_then ?_
  refine wp_cond_false (by kernel_rfl) ?_
  refine wp_skip ?_
  refine x_then ?_
  refine wp_seq ?_
  refine wp_region_lit ?_
  refine ql (.pointer none) (by kernel_rfl) (by kernel_rfl) ?_
  refine qc (f := 20) (args := #[.pointer none, .pointer none]) (by kernel_rfl) (R_call #[.pointer none, .pointer none] Tryd.func20 (by kernel_rfl) (by kernel_rfl) (by kernel_rfl)) ?_
  refine (dsame_nil 0 0 _).mono ?_
  rintro e W19 ⟨rfl, H_⟩
  refine ⟨_, rfl, ?_⟩
  replace HS : St W (owns []) W19 [row A15 0 c16 (ci .i64 ([])) 3 1, blk g1 [.slice (some ⟨a2, 0, none⟩) ws4.length c3, .int .i64 5] 53, row (some ⟨a2, 0, none⟩) ws4.length c3 (ci .u64 ws4) 54 1] := HS.join (F := []) (G := []) H_
  clear H_
  refine ql (.bool true) (by kernel_rfl) (by kernel_rfl) ?_
  refine ql (.pointer none) (by kernel_rfl) (by kernel_rfl) ?_
  refine ql (.pointer (some ⟨g1, 0, none⟩)) (by kernel_rfl) (by kernel_rfl) ?_
  refine qc (f := 20) (args := #[.pointer none, .pointer (some ⟨g1, 0, none⟩)]) (by kernel_rfl) (R_call #[.pointer none, .pointer (some ⟨g1, 0, none⟩)] Tryd.func20 (by kernel_rfl) (by kernel_rfl) (by kernel_rfl)) ?_
  refine (dsame_nil_l g1 5 _ (HS.cell (i := 1) (j := 1) rfl rfl)).mono ?_
  rintro e W20 ⟨rfl, H_⟩
  refine ⟨_, rfl, ?_⟩
  replace HS : St W (owns []) W20 [row A15 0 c16 (ci .i64 ([])) 3 1, blk g1 [.slice (some ⟨a2, 0, none⟩) ws4.length c3, .int .i64 5] 53, row (some ⟨a2, 0, none⟩) ws4.length c3 (ci .u64 ws4) 54 1] := HS.join (F := []) (G := []) H_
  clear H_
  refine ql (.bool true) (by kernel_rfl) (by kernel_rfl) ?_
  refine ql (.bool true) (by kernel_rfl) (by kernel_rfl) ?_
  refine ql (.bool true) (by kernel_rfl) (by kernel_rfl) ?_
  refine ql (.pointer (some ⟨g1, 0, none⟩)) (by kernel_rfl) (by kernel_rfl) ?_
  refine qc (f := 20) (args := #[.pointer (some ⟨g1, 0, none⟩), .pointer none]) (by kernel_rfl) (R_call #[.pointer (some ⟨g1, 0, none⟩), .pointer none] Tryd.func20 (by kernel_rfl) (by kernel_rfl) (by kernel_rfl)) ?_
  refine (dsame_nil_r g1 5 _ (HS.cell (i := 1) (j := 1) rfl rfl)).mono ?_
  rintro e W21 ⟨rfl, H_⟩
  refine ⟨_, rfl, ?_⟩
  replace HS : St W (owns []) W21 [row A15 0 c16 (ci .i64 ([])) 3 1, blk g1 [.slice (some ⟨a2, 0, none⟩) ws4.length c3, .int .i64 5] 53, row (some ⟨a2, 0, none⟩) ws4.length c3 (ci .u64 ws4) 54 1] := HS.join (F := []) (G := []) H_
  clear H_
  refine ql (.bool true) (by kernel_rfl) (by kernel_rfl) ?_
  refine ql (.bool true) (by kernel_rfl) (by kernel_rfl) ?_
  refine ql (.bool true) (by kernel_rfl) (by kernel_rfl) ?_
  refine ql (.pointer none) (by kernel_rfl) (by kernel_rfl) ?_
  refine ql (.pointer (some ⟨g1, 0, none⟩)) (by kernel_rfl) (by kernel_rfl) ?_
  refine qc (f := 10) (args := #[.pointer none, .pointer (some ⟨g1, 0, none⟩)]) (by kernel_rfl) (R_call #[.pointer none, .pointer (some ⟨g1, 0, none⟩)] Tryd.func10 (by kernel_rfl) (by kernel_rfl) (by kernel_rfl)) ?_
  refine (dwithin_nil _ _).mono ?_
  rintro e W22 ⟨rfl, H_⟩
  refine ⟨_, rfl, ?_⟩
  replace HS : St W (owns []) W22 [row A15 0 c16 (ci .i64 ([])) 3 1, blk g1 [.slice (some ⟨a2, 0, none⟩) ws4.length c3, .int .i64 5] 53, row (some ⟨a2, 0, none⟩) ws4.length c3 (ci .u64 ws4) 54 1] := HS.join (F := []) (G := []) H_
  clear H_
  refine ql (.bool true) (by kernel_rfl) (by kernel_rfl) ?_
  refine ql (.bool true) (by kernel_rfl) (by kernel_rfl) ?_
  refine qc (f := 6) (args := #[]) (by kernel_rfl) (R_call #[] Tryd.func6 (by kernel_rfl) (by kernel_rfl) (by kernel_rfl)) ?_
  refine (dawake _ (hT.old0 HS)).mono ?_
  rintro e W23 ⟨rfl, H_⟩
  refine ⟨_, rfl, ?_⟩
  replace HS : St W (owns []) W23 [row A15 0 c16 (ci .i64 ([])) 3 1, blk g1 [.slice (some ⟨a2, 0, none⟩) ws4.length c3, .int .i64 5] 53, row (some ⟨a2, 0, none⟩) ws4.length c3 (ci .u64 ws4) 54 1] := HS.join (F := []) (G := []) H_
  clear H_
  refine ql (.bool true) (by kernel_rfl) (by kernel_rfl) ?_
  refine ql (.bool true) (by kernel_rfl) (by kernel_rfl) ?_
  refine wpList_nil ?_
  refine x_then ?_
  refine wp_ret ?_
  refine ret_ (.bool true) (by kernel_rfl) ?_
  replace HS := HS.drop1
  replace HS := HS.drop1
  replace HS := HS.drop1
  exact ⟨rfl, HS⟩

end Go.Proofs.YtphhialimmhopaaDoor
