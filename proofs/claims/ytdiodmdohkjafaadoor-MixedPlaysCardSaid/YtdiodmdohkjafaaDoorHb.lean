/- The law MixedPlays holds at every input. This text: the walks through the functions that the statement reaches. No condition but those in the statement. -/
import Derived.WalkKit
import Derived.StillTailTactics
import Derived.Deep.LoopGhost
import Derived.KernelRfl
import Derived.Deep.OwnRows
import Derived.Laws.OwnMore
import Derived.Laws.MakeOwn
import Derived.Maps.AppendAt
import Derived.OrdersHeld
import Derived.Test.YtdiodmdohkjafaaDoorProg
import Derived.Test.YtdiodmdohkjafaaDoorHa
namespace Go.Proofs.YtdiodmdohkjafaaDoor
open Go Go.RowKit Go.Shelf Go.Proofs.YtdiodmdohkjafaaDoor.Hp
attribute [local irreducible] wpStill wpList Code.wp TA
set_option linter.unusedVariables false
set_option linter.unusedSimpArgs false

set_option maxRecDepth 100000 in
set_option maxHeartbeats 1000000 in
theorem ones64 (x : Nat) (W : World) (hx : x < 18446744073709551616) : Calls Tryd.prog 35 #[.int .u64 (x : Int)] W fun e W' => e = .returned (.int .i64 ((pc 64 x : Nat) : Int)) ∧ St W (owns []) W' [] := by
  have HS : St W (owns []) W [] := St.start W _
  refine calls_enter [.int .u64 (x : Int), undef, undef, undef, undef, undef, undef, undef, undef, undef, undef, undef, undef, undef, undef, undef, undef, undef, undef, undef, undef, undef, undef, undef, undef, undef, undef, undef, undef, undef, undef, undef, undef, undef, undef] Tryd.func35 rfl (by kernel_rfl) ?_
  refine wp_seq ?_
  refine wp_region_lit ?_
  refine ql (.int .i64 0) (by kernel_rfl) (by kernel_rfl) ?_
  refine wpList_nil ?_
  refine x_then ?_
  refine wp_seq ?_
  refine wp_region_lit ?_
  refine ql (.int .u64 (x : Int)) (by kernel_rfl) (by kernel_rfl) ?_
  obtain ⟨v1, hv1⟩ : ∃ z_ : Nat, z_ = x >>> 1 := ⟨_, rfl⟩
  have hbv1 : v1 ≤ x := by rw [hv1]; exact Nat.shiftRight_le _ _
  refine ql (.int .u64 (v1 : Int)) (by kernel_rfl) (by rw [hv1]; exact R_shrN (k2 := .u64) (m := x) (k := 1) (by kernel_rfl) (by kernel_rfl) (by omega) (by omega)) ?_
  obtain ⟨v2, hv2⟩ : ∃ z_ : Nat, z_ = v1 &&& 6148914691236517205 := ⟨_, rfl⟩
  have hbv2 : v2 ≤ 6148914691236517205 := by rw [hv2]; exact Nat.and_le_right
  refine ql (.int .u64 (v2 : Int)) (by kernel_rfl) (by rw [hv2]; exact R_andN (m := v1) (k := 6148914691236517205) (by kernel_rfl) (by kernel_rfl) (by omega) (by omega)) ?_
  refine ql (.int .u64 (x : Int)) (by kernel_rfl) (by kernel_rfl) ?_
  obtain ⟨v3, hv3⟩ : ∃ z_ : Nat, z_ = x &&& 6148914691236517205 := ⟨_, rfl⟩
  have hbv3 : v3 ≤ 6148914691236517205 := by rw [hv3]; exact Nat.and_le_right
  refine ql (.int .u64 (v3 : Int)) (by kernel_rfl) (by rw [hv3]; exact R_andN (m := x) (k := 6148914691236517205) (by kernel_rfl) (by kernel_rfl) (by omega) (by omega)) ?_
  obtain ⟨v4, hv4⟩ : ∃ z_ : Nat, z_ = v2 + v3 := ⟨_, rfl⟩
  refine ql (.int .u64 (v4 : Int)) (by kernel_rfl) (by rw [hv4]; exact R_addN (m := v2) (k := v3) (by kernel_rfl) (by kernel_rfl) (by omega)) ?_
  refine ql (.int .u64 (v4 : Int)) (by kernel_rfl) (by kernel_rfl) ?_
  refine wpList_nil ?_
  refine x_then ?_
  refine wp_seq ?_
  refine wp_region_lit ?_
  refine ql (.int .u64 (v4 : Int)) (by kernel_rfl) (by kernel_rfl) ?_
  obtain ⟨v5, hv5⟩ : ∃ z_ : Nat, z_ = v4 >>> 2 := ⟨_, rfl⟩
  have hbv5 : v5 ≤ v4 := by rw [hv5]; exact Nat.shiftRight_le _ _
  refine ql (.int .u64 (v5 : Int)) (by kernel_rfl) (by rw [hv5]; exact R_shrN (k2 := .u64) (m := v4) (k := 2) (by kernel_rfl) (by kernel_rfl) (by omega) (by omega)) ?_
  obtain ⟨v6, hv6⟩ : ∃ z_ : Nat, z_ = v5 &&& 3689348814741910323 := ⟨_, rfl⟩
  have hbv6 : v6 ≤ 3689348814741910323 := by rw [hv6]; exact Nat.and_le_right
  refine ql (.int .u64 (v6 : Int)) (by kernel_rfl) (by rw [hv6]; exact R_andN (m := v5) (k := 3689348814741910323) (by kernel_rfl) (by kernel_rfl) (by omega) (by omega)) ?_
  refine ql (.int .u64 (v4 : Int)) (by kernel_rfl) (by kernel_rfl) ?_
  obtain ⟨v7, hv7⟩ : ∃ z_ : Nat, z_ = v4 &&& 3689348814741910323 := ⟨_, rfl⟩
  have hbv7 : v7 ≤ 3689348814741910323 := by rw [hv7]; exact Nat.and_le_right
  refine ql (.int .u64 (v7 : Int)) (by kernel_rfl) (by rw [hv7]; exact R_andN (m := v4) (k := 3689348814741910323) (by kernel_rfl) (by kernel_rfl) (by omega) (by omega)) ?_
  obtain ⟨v8, hv8⟩ : ∃ z_ : Nat, z_ = v6 + v7 := ⟨_, rfl⟩
  refine ql (.int .u64 (v8 : Int)) (by kernel_rfl) (by rw [hv8]; exact R_addN (m := v6) (k := v7) (by kernel_rfl) (by kernel_rfl) (by omega)) ?_
  refine ql (.int .u64 (v8 : Int)) (by kernel_rfl) (by kernel_rfl) ?_
  refine wpList_nil ?_
  refine x_then ?_
  refine wp_seq ?_
  refine wp_region_lit ?_
  refine ql (.int .u64 (v8 : Int)) (by kernel_rfl) (by kernel_rfl) ?_
  obtain ⟨v9, hv9⟩ : ∃ z_ : Nat, z_ = v8 >>> 4 := ⟨_, rfl⟩
  have hbv9 : v9 ≤ v8 := by rw [hv9]; exact Nat.shiftRight_le _ _
  refine ql (.int .u64 (v9 : Int)) (by kernel_rfl) (by rw [hv9]; exact R_shrN (k2 := .u64) (m := v8) (k := 4) (by kernel_rfl) (by kernel_rfl) (by omega) (by omega)) ?_
  refine ql (.int .u64 (v8 : Int)) (by kernel_rfl) (by kernel_rfl) ?_
  obtain ⟨v10, hv10⟩ : ∃ z_ : Nat, z_ = v9 + v8 := ⟨_, rfl⟩
  refine ql (.int .u64 (v10 : Int)) (by kernel_rfl) (by rw [hv10]; exact R_addN (m := v9) (k := v8) (by kernel_rfl) (by kernel_rfl) (by omega)) ?_
  obtain ⟨v11, hv11⟩ : ∃ z_ : Nat, z_ = v10 &&& 1085102592571150095 := ⟨_, rfl⟩
  have hbv11 : v11 ≤ 1085102592571150095 := by rw [hv11]; exact Nat.and_le_right
  refine ql (.int .u64 (v11 : Int)) (by kernel_rfl) (by rw [hv11]; exact R_andN (m := v10) (k := 1085102592571150095) (by kernel_rfl) (by kernel_rfl) (by omega) (by omega)) ?_
  refine ql (.int .u64 (v11 : Int)) (by kernel_rfl) (by kernel_rfl) ?_
  refine wpList_nil ?_
  refine x_then ?_
  refine wp_seq ?_
  refine wp_region_lit ?_
  refine ql (.int .u64 (v11 : Int)) (by kernel_rfl) (by kernel_rfl) ?_
  refine ql (.int .u64 (v11 : Int)) (by kernel_rfl) (by kernel_rfl) ?_
  obtain ⟨v12, hv12⟩ : ∃ z_ : Nat, z_ = v11 >>> 8 := ⟨_, rfl⟩
  have hbv12 : v12 ≤ v11 := by rw [hv12]; exact Nat.shiftRight_le _ _
  refine ql (.int .u64 (v12 : Int)) (by kernel_rfl) (by rw [hv12]; exact R_shrN (k2 := .u64) (m := v11) (k := 8) (by kernel_rfl) (by kernel_rfl) (by omega) (by omega)) ?_
  obtain ⟨v13, hv13⟩ : ∃ z_ : Nat, z_ = v11 + v12 := ⟨_, rfl⟩
  refine ql (.int .u64 (v13 : Int)) (by kernel_rfl) (by rw [hv13]; exact R_addN (m := v11) (k := v12) (by kernel_rfl) (by kernel_rfl) (by omega)) ?_
  refine ql (.int .u64 (v13 : Int)) (by kernel_rfl) (by kernel_rfl) ?_
  refine wpList_nil ?_
  refine x_then ?_
  refine wp_seq ?_
  refine wp_region_lit ?_
  refine ql (.int .u64 (v13 : Int)) (by kernel_rfl) (by kernel_rfl) ?_
  refine ql (.int .u64 (v13 : Int)) (by kernel_rfl) (by kernel_rfl) ?_
  obtain ⟨v14, hv14⟩ : ∃ z_ : Nat, z_ = v13 >>> 16 := ⟨_, rfl⟩
  have hbv14 : v14 ≤ v13 := by rw [hv14]; exact Nat.shiftRight_le _ _
  refine ql (.int .u64 (v14 : Int)) (by kernel_rfl) (by rw [hv14]; exact R_shrN (k2 := .u64) (m := v13) (k := 16) (by kernel_rfl) (by kernel_rfl) (by omega) (by omega)) ?_
  obtain ⟨v15, hv15⟩ : ∃ z_ : Nat, z_ = v13 + v14 := ⟨_, rfl⟩
  refine ql (.int .u64 (v15 : Int)) (by kernel_rfl) (by rw [hv15]; exact R_addN (m := v13) (k := v14) (by kernel_rfl) (by kernel_rfl) (by omega)) ?_
  refine ql (.int .u64 (v15 : Int)) (by kernel_rfl) (by kernel_rfl) ?_
  refine wpList_nil ?_
  refine x_then ?_
  refine wp_seq ?_
  refine wp_region_lit ?_
  refine ql (.int .u64 (v15 : Int)) (by kernel_rfl) (by kernel_rfl) ?_
  refine ql (.int .u64 (v15 : Int)) (by kernel_rfl) (by kernel_rfl) ?_
  obtain ⟨v16, hv16⟩ : ∃ z_ : Nat, z_ = v15 >>> 32 := ⟨_, rfl⟩
  have hbv16 : v16 ≤ v15 := by rw [hv16]; exact Nat.shiftRight_le _ _
  refine ql (.int .u64 (v16 : Int)) (by kernel_rfl) (by rw [hv16]; exact R_shrN (k2 := .u64) (m := v15) (k := 32) (by kernel_rfl) (by kernel_rfl) (by omega) (by omega)) ?_
  obtain ⟨v17, hv17⟩ : ∃ z_ : Nat, z_ = v15 + v16 := ⟨_, rfl⟩
  refine ql (.int .u64 (v17 : Int)) (by kernel_rfl) (by rw [hv17]; exact R_addN (m := v15) (k := v16) (by kernel_rfl) (by kernel_rfl) (by omega)) ?_
  refine ql (.int .u64 (v17 : Int)) (by kernel_rfl) (by kernel_rfl) ?_
  refine wpList_nil ?_
  refine x_then ?_
  refine wp_seq ?_
  refine wp_region_lit ?_
  refine ql (.int .u64 (v17 : Int)) (by kernel_rfl) (by kernel_rfl) ?_
  refine ql (.int .i64 (v17 : Int)) (by kernel_rfl) (R_int (by kernel_rfl) (w64 (by omega))) ?_
  refine ql (.int .i64 ((v17 : Int) % 128)) (by kernel_rfl) (R_and127 (by kernel_rfl) (by kernel_rfl) (by omega) (by omega)) ?_
  refine ql (.int .i64 ((v17 : Int) % 128)) (by kernel_rfl) (by kernel_rfl) ?_
  refine wpList_nil ?_
  refine x_then ?_
  refine wp_ret ?_
  refine ret_ (.int .i64 ((v17 : Int) % 128)) (by kernel_rfl) ?_
  have hX : (v17 : Int) % 128 = ((onesC x : Nat) : Int) := by unfold onesC; simp only [hv1, hv2, hv3, hv4, hv5, hv6, hv7, hv8, hv9, hv10, hv11, hv12, hv13, hv14, hv15, hv16, hv17]; rfl
  rw [onesC_eq hx] at hX
  exact ⟨by rw [hX], HS⟩

set_option maxRecDepth 100000 in
set_option maxHeartbeats 1000000 in
theorem dsize (g : Nat) (n : Int) (W : World) (hz1 : W.cell? ⟨g, 1, none⟩ = some (.int .i64 n)) : Calls Tryd.prog 48 #[.pointer (some ⟨g, 0, none⟩)] W fun e W' => e = .returned (.int .i64 n) ∧ St W (owns []) W' [] := by
  have HS : St W (owns []) W [] := St.start W _
  refine calls_enter [.pointer (some ⟨g, 0, none⟩), undef, undef, undef, undef, undef, undef, undef, undef] Tryd.func48 rfl (by kernel_rfl) ?_
  refine wp_seq ?_
  refine wp_region_lit ?_
  refine ql (.int .i64 0) (by kernel_rfl) (by kernel_rfl) ?_
  refine wpList_nil ?_
  refine x_then ?_
  refine wp_seq ?_
  refine wp_seq ?_
  refine wp_region_lit ?_
  refine ql (.pointer (some ⟨g, 0, none⟩)) (by kernel_rfl) (by kernel_rfl) ?_
  refine ql (.bool false) (by kernel_rfl) (by kernel_rfl) ?_
  refine wpList_nil ?_
  refine x_then ?_
  refine wp_cond_false (by kernel_rfl) ?_
  refine wp_skip ?_
  refine x_then ?_
  refine wp_seq ?_
  refine wp_region_lit ?_
  refine ql (.pointer (some ⟨g, 0, none⟩)) (by kernel_rfl) (by kernel_rfl) ?_
  refine ql (.pointer (some ⟨g, 0, none⟩)) (by kernel_rfl) (by kernel_rfl) ?_
  refine ql (.pointer (some ⟨g, 1, none⟩)) (by kernel_rfl) (by kernel_rfl) ?_
  refine ql (.int .i64 n) (by kernel_rfl) (R_load (p := ⟨g, 1, none⟩) (by kernel_rfl) (by kernel_rfl) (by kernel_rfl) (HS.old0 hz1)) ?_
  refine ql (.int .i64 n) (by kernel_rfl) (by kernel_rfl) ?_
  refine wpList_nil ?_
  refine x_then ?_
  refine wp_ret ?_
  refine ret_ (.int .i64 n) (by kernel_rfl) ?_
  exact ⟨rfl, HS⟩

set_option maxRecDepth 100000 in
set_option maxHeartbeats 1000000 in
theorem dis_t (g : Nat) (n i : Int) (W : World) (hz1 : W.cell? ⟨g, 1, none⟩ = some (.int .i64 n)) (h0 : 0 ≤ i) (h1 : i < n) : Calls Tryd.prog 33 #[.pointer (some ⟨g, 0, none⟩), .int .i64 i] W fun e W' => e = .returned (.bool true) ∧ St W (owns []) W' [] := by
  have HS : St W (owns []) W [] := St.start W _
  refine calls_enter [.pointer (some ⟨g, 0, none⟩), .int .i64 i, undef, undef, undef, undef, undef, undef, undef, undef, undef, undef, undef] Tryd.func33 rfl (by kernel_rfl) ?_
  refine wp_seq ?_
  refine wp_region_lit ?_
  refine ql (.bool false) (by kernel_rfl) (by kernel_rfl) ?_
  refine wpList_nil ?_
  refine x_then ?_
  refine wp_seq ?_
  refine wp_region_lit ?_
  refine ql (.int .i64 i) (by kernel_rfl) (by kernel_rfl) ?_
  by_cases hc1 : i ≥ (0 : Int)
  · skip
    refine ql (.bool true) (by kernel_rfl) (R_bool (p := i ≥ (0 : Int)) (by kernel_rfl) (hc1)) ?_
    refine ql (.bool true) (by kernel_rfl) (by kernel_rfl) ?_
    refine ql (.int .i64 i) (by kernel_rfl) (by kernel_rfl) ?_
    refine ql (.pointer (some ⟨g, 0, none⟩)) (by kernel_rfl) (by kernel_rfl) ?_
    refine qc (f := 48) (args := #[.pointer (some ⟨g, 0, none⟩)]) (by kernel_rfl) (R_call #[.pointer (some ⟨g, 0, none⟩)] Tryd.func48 (by kernel_rfl) (by kernel_rfl) (by kernel_rfl)) ?_
    refine (dsize _ _ _ (HS.old0 hz1)).mono ?_
    rintro e W2 ⟨rfl, H_⟩
    refine ⟨_, rfl, ?_⟩
    replace HS : St W (owns []) W2 [] := HS.join (F := []) (G := []) H_
    clear H_
    by_cases hc3 : i < n
    · skip
      refine ql (.bool true) (by kernel_rfl) (R_bool (p := i < n) (by kernel_rfl) (hc3)) ?_
      refine ql (.bool true) (by kernel_rfl) (by kernel_rfl) ?_
      refine ql (.bool true) (by kernel_rfl) (by kernel_rfl) ?_
      refine wpList_nil ?_
      refine x_then ?_
      refine wp_ret ?_
      refine ret_ (.bool true) (by kernel_rfl) ?_
      exact ⟨rfl, HS⟩
    · skip
      refine ql (.bool false) (by kernel_rfl) (R_nbool (p := i < n) (by kernel_rfl) (hc3)) ?_
      refine ql (.bool false) (by kernel_rfl) (by kernel_rfl) ?_
      refine ql (.bool false) (by kernel_rfl) (by kernel_rfl) ?_
      refine wpList_nil ?_
      refine x_then ?_
      refine wp_ret ?_
      refine ret_ (.bool false) (by kernel_rfl) ?_
      exfalso; omega
  · skip
    refine ql (.bool false) (by kernel_rfl) (R_nbool (p := i ≥ (0 : Int)) (by kernel_rfl) (hc1)) ?_
    refine ql (.bool false) (by kernel_rfl) (by kernel_rfl) ?_
    refine qln (by kernel_rfl) ?_
    refine qln (by kernel_rfl) ?_
    refine qln (by kernel_rfl) ?_
    refine qln (by kernel_rfl) ?_
    refine ql (.bool false) (by kernel_rfl) (by kernel_rfl) ?_
    refine ql (.bool false) (by kernel_rfl) (by kernel_rfl) ?_
    refine wpList_nil ?_
    refine x_then ?_
    refine wp_ret ?_
    refine ret_ (.bool false) (by kernel_rfl) ?_
    exfalso; omega

set_option maxRecDepth 100000 in
set_option maxHeartbeats 1000000 in
theorem dis_f (g : Nat) (n i : Int) (W : World) (hz1 : W.cell? ⟨g, 1, none⟩ = some (.int .i64 n)) (ho : i < 0 ∨ n ≤ i) : Calls Tryd.prog 33 #[.pointer (some ⟨g, 0, none⟩), .int .i64 i] W fun e W' => e = .returned (.bool false) ∧ St W (owns []) W' [] := by
  have HS : St W (owns []) W [] := St.start W _
  refine calls_enter [.pointer (some ⟨g, 0, none⟩), .int .i64 i, undef, undef, undef, undef, undef, undef, undef, undef, undef, undef, undef] Tryd.func33 rfl (by kernel_rfl) ?_
  refine wp_seq ?_
  refine wp_region_lit ?_
  refine ql (.bool false) (by kernel_rfl) (by kernel_rfl) ?_
  refine wpList_nil ?_
  refine x_then ?_
  refine wp_seq ?_
  refine wp_region_lit ?_
  refine ql (.int .i64 i) (by kernel_rfl) (by kernel_rfl) ?_
  by_cases hc1 : i ≥ (0 : Int)
  · skip
    refine ql (.bool true) (by kernel_rfl) (R_bool (p := i ≥ (0 : Int)) (by kernel_rfl) (hc1)) ?_
    refine ql (.bool true) (by kernel_rfl) (by kernel_rfl) ?_
    refine ql (.int .i64 i) (by kernel_rfl) (by kernel_rfl) ?_
    refine ql (.pointer (some ⟨g, 0, none⟩)) (by kernel_rfl) (by kernel_rfl) ?_
    refine qc (f := 48) (args := #[.pointer (some ⟨g, 0, none⟩)]) (by kernel_rfl) (R_call #[.pointer (some ⟨g, 0, none⟩)] Tryd.func48 (by kernel_rfl) (by kernel_rfl) (by kernel_rfl)) ?_
    refine (dsize _ _ _ (HS.old0 hz1)).mono ?_
    rintro e W2 ⟨rfl, H_⟩
    refine ⟨_, rfl, ?_⟩
    replace HS : St W (owns []) W2 [] := HS.join (F := []) (G := []) H_
    clear H_
    by_cases hc3 : i < n
    · skip
      refine ql (.bool true) (by kernel_rfl) (R_bool (p := i < n) (by kernel_rfl) (hc3)) ?_
      refine ql (.bool true) (by kernel_rfl) (by kernel_rfl) ?_
      refine ql (.bool true) (by kernel_rfl) (by kernel_rfl) ?_
      refine wpList_nil ?_
      refine x_then ?_
      refine wp_ret ?_
      refine ret_ (.bool true) (by kernel_rfl) ?_
      exfalso; omega
    · skip
      refine ql (.bool false) (by kernel_rfl) (R_nbool (p := i < n) (by kernel_rfl) (hc3)) ?_
      refine ql (.bool false) (by kernel_rfl) (by kernel_rfl) ?_
      refine ql (.bool false) (by kernel_rfl) (by kernel_rfl) ?_
      refine wpList_nil ?_
      refine x_then ?_
      refine wp_ret ?_
      refine ret_ (.bool false) (by kernel_rfl) ?_
      exact ⟨rfl, HS⟩
  · skip
    refine ql (.bool false) (by kernel_rfl) (R_nbool (p := i ≥ (0 : Int)) (by kernel_rfl) (hc1)) ?_
    refine ql (.bool false) (by kernel_rfl) (by kernel_rfl) ?_
    refine qln (by kernel_rfl) ?_
    refine qln (by kernel_rfl) ?_
    refine qln (by kernel_rfl) ?_
    refine qln (by kernel_rfl) ?_
    refine ql (.bool false) (by kernel_rfl) (by kernel_rfl) ?_
    refine ql (.bool false) (by kernel_rfl) (by kernel_rfl) ?_
    refine wpList_nil ?_
    refine x_then ?_
    refine wp_ret ?_
    refine ret_ (.bool false) (by kernel_rfl) ?_
    exact ⟨rfl, HS⟩

set_option maxRecDepth 100000 in
set_option maxHeartbeats 1000000 in
theorem dhas_t (g c : Nat) (A : Option Addr) (ws : List Int) (n : Int) (L : List Int) (i : Int) (W : World) (hz0 : W.cell? ⟨g, 0, none⟩ = some (.slice A ws.length c)) (hz1 : W.cell? ⟨g, 1, none⟩ = some (.int .i64 n)) (hr : Rd W A (ci .u64 ws)) (hR : Rep ws n L) (hn : n ≤ 1048576) (hi : i ∈ L) : Calls Tryd.prog 16 #[.pointer (some ⟨g, 0, none⟩), .int .i64 i] W fun e W' => e = .returned (.bool true) ∧ St W (owns []) W' [] := by
  have HS : St W (owns []) W [] := St.start W _
  have h0 := (hR.lim i hi).1
  have h1 := (hR.lim i hi).2
  have hix := hR.idx h0 h1
  refine calls_enter [.pointer (some ⟨g, 0, none⟩), .int .i64 i, undef, undef, undef, undef, undef, undef, undef, undef, undef, undef, undef, undef, undef, undef, undef, undef, undef, undef, undef, undef, undef] Tryd.func16 rfl (by kernel_rfl) ?_
  refine wp_seq ?_
  refine wp_region_lit ?_
  refine ql (.bool false) (by kernel_rfl) (by kernel_rfl) ?_
  refine wpList_nil ?_
  refine x_then ?_
  refine wp_seq ?_
  refine wp_region_lit ?_
  refine ql (.pointer (some ⟨g, 0, none⟩)) (by kernel_rfl) (by kernel_rfl) ?_
  refine ql (.int .i64 i) (by kernel_rfl) (by kernel_rfl) ?_
  refine qc (f := 33) (args := #[.pointer (some ⟨g, 0, none⟩), .int .i64 i]) (by kernel_rfl) (R_call #[.pointer (some ⟨g, 0, none⟩), .int .i64 i] Tryd.func33 (by kernel_rfl) (by kernel_rfl) (by kernel_rfl)) ?_
  refine (dis_t _ _ i _ (HS.old0 hz1) (hR.lim i hi).1 (hR.lim i hi).2).mono ?_
  rintro e W1 ⟨rfl, H_⟩
  refine ⟨_, rfl, ?_⟩
  replace HS : St W (owns []) W1 [] := HS.join (F := []) (G := []) H_
  clear H_
  refine ql (.bool true) (by kernel_rfl) (by kernel_rfl) ?_
  refine ql (.pointer (some ⟨g, 0, none⟩)) (by kernel_rfl) (by kernel_rfl) ?_
  refine ql (.pointer (some ⟨g, 0, none⟩)) (by kernel_rfl) (by kernel_rfl) ?_
  refine ql (.pointer (some ⟨g, 0, none⟩)) (by kernel_rfl) (by kernel_rfl) ?_
  refine ql (.slice A ws.length c) (by kernel_rfl) (R_load (p := ⟨g, 0, none⟩) (by kernel_rfl) (by kernel_rfl) (by kernel_rfl) (HS.old0 hz0)) ?_
  refine ql (.int .i64 i) (by kernel_rfl) (by kernel_rfl) ?_
  refine ql (.int .i64 (i / 64)) (by kernel_rfl) (R_quo (by kernel_rfl) (by kernel_rfl) (by omega) (by omega) (by decide)) ?_
  obtain ⟨ad2, rfl⟩ := Rd.isSome_ hr (by rw [ci_len]; omega)
  refine ql (.pointer (some (ad2.add (i / 64).toNat))) (by kernel_rfl) (R_indexA1 (k := .i64) (p := ad2) (n := ws.length) (c := c) (i := i / 64) (by kernel_rfl) (by kernel_rfl) Tryd.underlying60 (by kernel_rfl) (by omega) (by omega)) ?_
  refine ql (.int .u64 (rdI ws (i / 64))) (by kernel_rfl) (R_load (p := ad2.add (i / 64).toNat) (by kernel_rfl) (by kernel_rfl) (by kernel_rfl) (HS.old0 (hr.at_ (ci_rd (i := i / 64) (by omega) (by omega))))) ?_
  refine ql (.int .i64 i) (by kernel_rfl) (by kernel_rfl) ?_
  refine ql (.int .i64 (i % 64)) (by kernel_rfl) (R_rem2 (by kernel_rfl) (by kernel_rfl) (by omega) (by omega) (by decide)) ?_
  refine ql (.int .u64 (shrW (rdI ws (i / 64)) (i % 64))) (by kernel_rfl) (R_shr (k2 := .i64) (by kernel_rfl) (by kernel_rfl) (hR.rd_at h0 h1) (by omega) (by omega)) ?_
  refine ql (.int .u64 (andW (shrW (rdI ws (i / 64)) (i % 64)) 1)) (by kernel_rfl) (R_and (by kernel_rfl) (by kernel_rfl) (u_shr (hR.rd_at h0 h1)) (u_lit 1 (by decide))) ?_
  refine ql (.bool true) (by kernel_rfl) (R_beq (b := (andW (shrW (rdI ws (i / 64)) (i % 64)) 1 == (1 : Int))) (by kernel_rfl) (beq_t (hR.has_t hi))) ?_
  refine ql (.bool true) (by kernel_rfl) (by kernel_rfl) ?_
  refine ql (.bool true) (by kernel_rfl) (by kernel_rfl) ?_
  refine wpList_nil ?_
  refine x_then ?_
  refine wp_ret ?_
  refine ret_ (.bool true) (by kernel_rfl) ?_
  exact ⟨rfl, HS⟩

set_option maxRecDepth 100000 in
set_option maxHeartbeats 1000000 in
theorem dhas_f (g c : Nat) (A : Option Addr) (ws : List Int) (n : Int) (L : List Int) (i : Int) (W : World) (hz0 : W.cell? ⟨g, 0, none⟩ = some (.slice A ws.length c)) (hz1 : W.cell? ⟨g, 1, none⟩ = some (.int .i64 n)) (hr : Rd W A (ci .u64 ws)) (hR : Rep ws n L) (hn : n ≤ 1048576) (h0 : 0 ≤ i) (h1 : i < n) (hi : i ∉ L) : Calls Tryd.prog 16 #[.pointer (some ⟨g, 0, none⟩), .int .i64 i] W fun e W' => e = .returned (.bool false) ∧ St W (owns []) W' [] := by
  have HS : St W (owns []) W [] := St.start W _
  have hix := hR.idx h0 h1
  refine calls_enter [.pointer (some ⟨g, 0, none⟩), .int .i64 i, undef, undef, undef, undef, undef, undef, undef, undef, undef, undef, undef, undef, undef, undef, undef, undef, undef, undef, undef, undef, undef] Tryd.func16 rfl (by kernel_rfl) ?_
  refine wp_seq ?_
  refine wp_region_lit ?_
  refine ql (.bool false) (by kernel_rfl) (by kernel_rfl) ?_
  refine wpList_nil ?_
  refine x_then ?_
  refine wp_seq ?_
  refine wp_region_lit ?_
  refine ql (.pointer (some ⟨g, 0, none⟩)) (by kernel_rfl) (by kernel_rfl) ?_
  refine ql (.int .i64 i) (by kernel_rfl) (by kernel_rfl) ?_
  refine qc (f := 33) (args := #[.pointer (some ⟨g, 0, none⟩), .int .i64 i]) (by kernel_rfl) (R_call #[.pointer (some ⟨g, 0, none⟩), .int .i64 i] Tryd.func33 (by kernel_rfl) (by kernel_rfl) (by kernel_rfl)) ?_
  refine (dis_t _ _ i _ (HS.old0 hz1) h0 h1).mono ?_
  rintro e W1 ⟨rfl, H_⟩
  refine ⟨_, rfl, ?_⟩
  replace HS : St W (owns []) W1 [] := HS.join (F := []) (G := []) H_
  clear H_
  refine ql (.bool true) (by kernel_rfl) (by kernel_rfl) ?_
  refine ql (.pointer (some ⟨g, 0, none⟩)) (by kernel_rfl) (by kernel_rfl) ?_
  refine ql (.pointer (some ⟨g, 0, none⟩)) (by kernel_rfl) (by kernel_rfl) ?_
  refine ql (.pointer (some ⟨g, 0, none⟩)) (by kernel_rfl) (by kernel_rfl) ?_
  refine ql (.slice A ws.length c) (by kernel_rfl) (R_load (p := ⟨g, 0, none⟩) (by kernel_rfl) (by kernel_rfl) (by kernel_rfl) (HS.old0 hz0)) ?_
  refine ql (.int .i64 i) (by kernel_rfl) (by kernel_rfl) ?_
  refine ql (.int .i64 (i / 64)) (by kernel_rfl) (R_quo (by kernel_rfl) (by kernel_rfl) (by omega) (by omega) (by decide)) ?_
  obtain ⟨ad2, rfl⟩ := Rd.isSome_ hr (by rw [ci_len]; omega)
  refine ql (.pointer (some (ad2.add (i / 64).toNat))) (by kernel_rfl) (R_indexA1 (k := .i64) (p := ad2) (n := ws.length) (c := c) (i := i / 64) (by kernel_rfl) (by kernel_rfl) Tryd.underlying60 (by kernel_rfl) (by omega) (by omega)) ?_
  refine ql (.int .u64 (rdI ws (i / 64))) (by kernel_rfl) (R_load (p := ad2.add (i / 64).toNat) (by kernel_rfl) (by kernel_rfl) (by kernel_rfl) (HS.old0 (hr.at_ (ci_rd (i := i / 64) (by omega) (by omega))))) ?_
  refine ql (.int .i64 i) (by kernel_rfl) (by kernel_rfl) ?_
  refine ql (.int .i64 (i % 64)) (by kernel_rfl) (R_rem2 (by kernel_rfl) (by kernel_rfl) (by omega) (by omega) (by decide)) ?_
  refine ql (.int .u64 (shrW (rdI ws (i / 64)) (i % 64))) (by kernel_rfl) (R_shr (k2 := .i64) (by kernel_rfl) (by kernel_rfl) (hR.rd_at h0 h1) (by omega) (by omega)) ?_
  refine ql (.int .u64 (andW (shrW (rdI ws (i / 64)) (i % 64)) 1)) (by kernel_rfl) (R_and (by kernel_rfl) (by kernel_rfl) (u_shr (hR.rd_at h0 h1)) (u_lit 1 (by decide))) ?_
  refine ql (.bool false) (by kernel_rfl) (R_beq (b := (andW (shrW (rdI ws (i / 64)) (i % 64)) 1 == (1 : Int))) (by kernel_rfl) (beq_f (hR.has_f h0 h1 hi))) ?_
  refine ql (.bool false) (by kernel_rfl) (by kernel_rfl) ?_
  refine ql (.bool false) (by kernel_rfl) (by kernel_rfl) ?_
  refine wpList_nil ?_
  refine x_then ?_
  refine wp_ret ?_
  refine ret_ (.bool false) (by kernel_rfl) ?_
  exact ⟨rfl, HS⟩

set_option maxRecDepth 100000 in
set_option maxHeartbeats 1000000 in
theorem dhas_o (g c : Nat) (A : Option Addr) (ws : List Int) (n : Int) (L : List Int) (i : Int) (W : World) (hz0 : W.cell? ⟨g, 0, none⟩ = some (.slice A ws.length c)) (hz1 : W.cell? ⟨g, 1, none⟩ = some (.int .i64 n)) (hr : Rd W A (ci .u64 ws)) (hR : Rep ws n L) (hn : n ≤ 1048576) (ho : i < 0 ∨ n ≤ i) : Calls Tryd.prog 16 #[.pointer (some ⟨g, 0, none⟩), .int .i64 i] W fun e W' => e = .returned (.bool false) ∧ St W (owns []) W' [] := by
  have HS : St W (owns []) W [] := St.start W _
  refine calls_enter [.pointer (some ⟨g, 0, none⟩), .int .i64 i, undef, undef, undef, undef, undef, undef, undef, undef, undef, undef, undef, undef, undef, undef, undef, undef, undef, undef, undef, undef, undef] Tryd.func16 rfl (by kernel_rfl) ?_
  refine wp_seq ?_
  refine wp_region_lit ?_
  refine ql (.bool false) (by kernel_rfl) (by kernel_rfl) ?_
  refine wpList_nil ?_
  refine x_then ?_
  refine wp_seq ?_
  refine wp_region_lit ?_
  refine ql (.pointer (some ⟨g, 0, none⟩)) (by kernel_rfl) (by kernel_rfl) ?_
  refine ql (.int .i64 i) (by kernel_rfl) (by kernel_rfl) ?_
  refine qc (f := 33) (args := #[.pointer (some ⟨g, 0, none⟩), .int .i64 i]) (by kernel_rfl) (R_call #[.pointer (some ⟨g, 0, none⟩), .int .i64 i] Tryd.func33 (by kernel_rfl) (by kernel_rfl) (by kernel_rfl)) ?_
  refine (dis_f _ _ i _ (HS.old0 hz1) ho).mono ?_
  rintro e W1 ⟨rfl, H_⟩
  refine ⟨_, rfl, ?_⟩
  replace HS : St W (owns []) W1 [] := HS.join (F := []) (G := []) H_
  clear H_
  refine ql (.bool false) (by kernel_rfl) (by kernel_rfl) ?_
  refine qln (by kernel_rfl) ?_
  refine qln (by kernel_rfl) ?_
  refine qln (by kernel_rfl) ?_
  refine qln (by kernel_rfl) ?_
  refine qln (by kernel_rfl) ?_
  refine qln (by kernel_rfl) ?_
  refine qln (by kernel_rfl) ?_
  refine qln (by kernel_rfl) ?_
  refine qln (by kernel_rfl) ?_
  refine qln (by kernel_rfl) ?_
  refine qln (by kernel_rfl) ?_
  refine qln (by kernel_rfl) ?_
  refine qln (by kernel_rfl) ?_
  refine ql (.bool false) (by kernel_rfl) (by kernel_rfl) ?_
  refine ql (.bool false) (by kernel_rfl) (by kernel_rfl) ?_
  refine wpList_nil ?_
  refine x_then ?_
  refine wp_ret ?_
  refine ret_ (.bool false) (by kernel_rfl) ?_
  exact ⟨rfl, HS⟩

theorem dhas_n (g c : Nat) (A : Option Addr) (ws : List Int) (n : Int) (L : List Int) (i : Int) (W : World) (hz0 : W.cell? ⟨g, 0, none⟩ = some (.slice A ws.length c)) (hz1 : W.cell? ⟨g, 1, none⟩ = some (.int .i64 n)) (hr : Rd W A (ci .u64 ws)) (hR : Rep ws n L) (hn : n ≤ 1048576) (hi : i ∉ L) : Calls Tryd.prog 16 #[.pointer (some ⟨g, 0, none⟩), .int .i64 i] W fun e W' => e = .returned (.bool false) ∧ St W (owns []) W' [] := by
  by_cases h : 0 ≤ i ∧ i < n
  · exact dhas_f g c A ws n L i W hz0 hz1 hr hR hn h.1 h.2 hi
  · exact dhas_o g c A ws n L i W hz0 hz1 hr hR hn (by omega)


def TabAt64 (W : World) : Prop := ∀ j, j < 64 → W.cell? ⟨0, j, none⟩ = some (.int .u8 ((Lib.deBruijn64tab.getD j 0 : Nat) : Int))

set_option maxRecDepth 100000 in
set_option maxHeartbeats 1000000 in
theorem tz64 (x : Nat) (W : World) (hx : x < 18446744073709551616) (h0 : x ≠ 0) (hT : TabAt64 W) : Calls Tryd.prog 57 #[.int .u64 (x : Int)] W fun e W' => e = .returned (.int .i64 ((Lib.ctz 64 x : Nat) : Int)) ∧ St W (owns []) W' [] := by
  have HS : St W (owns []) W [] := St.start W _
  obtain ⟨hlow, hk⟩ := Lib.lowest_bit 64 x h0 hx
  obtain ⟨hi, htab⟩ := Lib.deBruijn64_at _ hk
  have hcell := hT _ hi
  rw [htab] at hcell
  refine calls_enter [.int .u64 (x : Int), undef, undef, undef, undef, undef, undef, undef, undef, undef, undef, undef, undef, undef] Tryd.func57 rfl (by kernel_rfl) ?_
  refine wp_seq ?_
  refine wp_region_lit ?_
  refine ql (.int .i64 0) (by kernel_rfl) (by kernel_rfl) ?_
  refine wpList_nil ?_
  refine x_then ?_
  refine wp_seq ?_
  refine wp_seq ?_
  refine wp_region_lit ?_
  refine ql (.int .u64 (x : Int)) (by kernel_rfl) (by kernel_rfl) ?_
  refine ql (.bool false) (by kernel_rfl) (R_beq (b := ((x : Int) == (0 : Int))) (by kernel_rfl) (beq_f (by omega))) ?_
  refine wpList_nil ?_
  refine x_then ?_
  refine wp_cond_false (by kernel_rfl) ?_
  refine wp_skip ?_
  refine x_then ?_
  refine wp_seq ?_
  refine wp_region_lit ?_
  refine ql (.int .u64 (x : Int)) (by kernel_rfl) (by kernel_rfl) ?_
  refine ql (.int .u64 (x : Int)) (by kernel_rfl) (by kernel_rfl) ?_
  refine ql (.int .u64 ((18446744073709551616 - x : Nat) : Int)) (by kernel_rfl) (R_negN (m := x) (by kernel_rfl) h0 hx) ?_
  refine ql (.int .u64 ((2 ^ Lib.ctz 64 x : Nat) : Int)) (by kernel_rfl) (by rw [← hlow]; exact R_andN (m := x) (k := 18446744073709551616 - x) (by kernel_rfl) (by kernel_rfl) hx (by omega)) ?_
  refine ql (.int .u64 ((2 ^ Lib.ctz 64 x * 285870213051353865 % 18446744073709551616 : Nat) : Int)) (by kernel_rfl) (R_mulN (m := 2 ^ Lib.ctz 64 x) (k := 285870213051353865) (by kernel_rfl) (by kernel_rfl)) ?_
  refine ql (.int .u64 (((2 ^ Lib.ctz 64 x * 285870213051353865 % 18446744073709551616 / 288230376151711744) : Nat) : Int)) (by kernel_rfl) (by have h9 := R_shrN (P := Tryd.prog) (W := W) (m := 2 ^ Lib.ctz 64 x * 285870213051353865 % 18446744073709551616) (k := 58) (k2 := .u64) (dst := some 10) (t := 63) (x := (Go.Operand.tmp 9)) (y := (Go.Operand.const (Go.Value.int Go.IntKind.u64 58))) (t2 := 81) (ty := 63) (ps := "bits.go:105") (af := #[{ on := 4, ground := Go.Ground.data }]) (gd := none) (a := Fr [.int .u64 (x : Int), undef, .int .i64 0, .int .u64 (x : Int), .bool false, .int .u64 (x : Int), .int .u64 (x : Int), .int .u64 ((18446744073709551616 - x : Nat) : Int), .int .u64 ((2 ^ Lib.ctz 64 x : Nat) : Int), .int .u64 ((2 ^ Lib.ctz 64 x * 285870213051353865 % 18446744073709551616 : Nat) : Int), undef, undef, undef, undef]) (by kernel_rfl) (by kernel_rfl) (Nat.mod_lt _ (by decide)) (by decide); rw [Nat.shiftRight_eq_div_pow] at h9; exact h9) ?_
  refine ql (.pointer (some ⟨0, (2 ^ Lib.ctz 64 x * 285870213051353865 % 18446744073709551616 / 288230376151711744), none⟩)) (by kernel_rfl) (R_idxArr (g := 0) (m := (2 ^ Lib.ctz 64 x * 285870213051353865 % 18446744073709551616 / 288230376151711744)) (k := .u64) (by kernel_rfl) (by kernel_rfl) Tryd.underlying90 (by kernel_rfl) hi) ?_
  refine ql (.int .u8 ((Lib.ctz 64 x : Nat) : Int)) (by kernel_rfl) (R_load (p := ⟨0, (2 ^ Lib.ctz 64 x * 285870213051353865 % 18446744073709551616 / 288230376151711744), none⟩) (by kernel_rfl) (by kernel_rfl) (by kernel_rfl) (HS.old0 hcell)) ?_
  refine ql (.int .i64 ((Lib.ctz 64 x : Nat) : Int)) (by kernel_rfl) (R_int (by kernel_rfl) (w64 (by omega))) ?_
  refine ql (.int .i64 ((Lib.ctz 64 x : Nat) : Int)) (by kernel_rfl) (by kernel_rfl) ?_
  refine wpList_nil ?_
  refine x_then ?_
  refine wp_ret ?_
  refine ret_ (.int .i64 ((Lib.ctz 64 x : Nat) : Int)) (by kernel_rfl) ?_
  exact ⟨rfl, HS⟩


theorem rep_zero {n : Int} {k : Nat} (h0 : 0 ≤ n) (hk : (k : Int) = (n + 63) / 64) : Rep (List.replicate k 0) n [] := by
  refine ⟨by rw [List.length_replicate]; exact hk, h0, fun w hw => ?_, fun i h0 h1 => ?_, List.Pairwise.nil, fun x hx => by simp at hx⟩
  · obtain ⟨_, rfl⟩ := List.mem_replicate.1 hw
    exact u_lit 0 (by decide)
  · have e : rdI (List.replicate k 0) (i / 64) = 0 := by
      unfold rdI
      rw [List.getD_eq_getElem?_getD, List.getElem?_replicate]
      split <;> rfl
    unfold bitI tb
    rw [e, show (0 : Int).toNat = 0 from rfl, Nat.zero_testBit]
    simp

set_option maxRecDepth 100000 in
set_option maxHeartbeats 1000000 in
theorem dnew_ok (n : Int) (W : World) (h0 : 0 ≤ n) (h1 : n ≤ 1048576) : Calls Tryd.prog 10 #[.int .i64 n] W fun e W' => ∃ g a c ws, e = .returned (.tuple #[.pointer (some ⟨g, 0, none⟩), .int .i64 0]) ∧ St W (owns []) W' [blk g [.slice (some ⟨a, 0, none⟩) ws.length c, .int .i64 n] 62, row (some ⟨a, 0, none⟩) ws.length c (ci .u64 ws) 63 1] ∧ Rep ws n [] := by
  have HS : St W (owns []) W [] := St.start W _
  refine calls_enter [.int .i64 n, undef, undef, undef, undef, undef, undef, undef, undef, undef, undef, undef, undef, undef, undef, undef, undef, undef] Tryd.func10 rfl (by kernel_rfl) ?_
  refine wp_seq ?_
  refine wp_region_lit ?_
  refine ql (.pointer none) (by kernel_rfl) (by kernel_rfl) ?_
  refine ql (.int .i64 0) (by kernel_rfl) (by kernel_rfl) ?_
  refine wpList_nil ?_
  refine x_then ?_
  refine wp_seq ?_
  refine wp_block ?_
  refine wp_seq ?_
  refine wp_region_lit ?_
  refine ql (.int .i64 n) (by kernel_rfl) (by kernel_rfl) ?_
  refine ql (.bool false) (by kernel_rfl) (R_nbool (p := n < (0 : Int)) (by kernel_rfl) (by omega)) ?_
  refine ql (.bool false) (by kernel_rfl) (by kernel_rfl) ?_
  refine wpList_nil ?_
  refine x_then ?_
  refine wp_cond_false (by kernel_rfl) ?_
  refine wp_seq ?_
  refine wp_region_lit ?_
  refine ql (.int .i64 n) (by kernel_rfl) (by kernel_rfl) ?_
  refine ql (.bool false) (by kernel_rfl) (R_nbool (p := n > (1048576 : Int)) (by kernel_rfl) (by omega)) ?_
  refine ql (.bool false) (by kernel_rfl) (by kernel_rfl) ?_
  refine wpList_nil ?_
  refine x_then ?_
  refine wp_cond_false (by kernel_rfl) ?_
  refine wp_skip ?_
  refine x_inb ?_
  refine x_then ?_
  refine wp_seq ?_
  refine wp_region_lit ?_
  refine ql (.int .i64 n) (by kernel_rfl) (by kernel_rfl) ?_
  refine ql (.int .i64 (n + 64)) (by kernel_rfl) (R_int (by kernel_rfl) (w64 (by omega))) ?_
  refine ql (.int .i64 ((n + 64) - 1)) (by kernel_rfl) (R_int (by kernel_rfl) (w64 (by omega))) ?_
  refine ql (.int .i64 (((n + 64) - 1) / 64)) (by kernel_rfl) (R_quo (by kernel_rfl) (by kernel_rfl) (by omega) (by omega) (by decide)) ?_
  refine km HS ((((n + 64) - 1) / 64).toNat) [.int .u64 0] 8 (by kernel_rfl) (k_eq (k := .i64) (m := ((n + 64) - 1) / 64) (by kernel_rfl) (by omega)) (k_eq (k := .i64) (m := ((n + 64) - 1) / 64) (by kernel_rfl) (by omega)) Tryd.underlying60 (by kernel_rfl) (by kernel_rfl) (by kernel_rfl) (by decide) (by omega) (by omega) ?_
  intro g1 W2 H_
  replace HS : St W (owns []) W2 [row (some ⟨g1, 0, none⟩) ((((n + 64) - 1) / 64).toNat) ((((n + 64) - 1) / 64).toNat) (ci .u64 (List.replicate ((((n + 64) - 1) / 64).toNat) 0)) 63 1] := H_.cast_ (by rw [ci_rep]; rfl)
  clear H_
  have rlg1 : (List.replicate ((((n + 64) - 1) / 64).toNat) (0 : Int)).length = (((n + 64) - 1) / 64).toNat := List.length_replicate
  refine ql (.int .i64 n) (by kernel_rfl) (by kernel_rfl) ?_
  refine ql (.agg #[.slice (some ⟨g1, 0, none⟩) ((((n + 64) - 1) / 64).toNat) ((((n + 64) - 1) / 64).toNat), .int .i64 n]) (by kernel_rfl) (by kernel_rfl) ?_
  refine kb HS [.slice (some ⟨g1, 0, none⟩) ((((n + 64) - 1) / 64).toNat) ((((n + 64) - 1) / 64).toNat), .int .i64 n] 62 (fun g => .pointer (some ⟨g, 0, none⟩)) (by kernel_rfl) (by kernel_rfl) ?_
  intro g3 W4 H_
  replace HS : St W (owns []) W4 [blk g3 [.slice (some ⟨g1, 0, none⟩) ((((n + 64) - 1) / 64).toNat) ((((n + 64) - 1) / 64).toNat), .int .i64 n] 62, row (some ⟨g1, 0, none⟩) ((((n + 64) - 1) / 64).toNat) ((((n + 64) - 1) / 64).toNat) (ci .u64 (List.replicate ((((n + 64) - 1) / 64).toNat) 0)) 63 1] := H_
  clear H_
  refine ql (.pointer (some ⟨g3, 0, none⟩)) (by kernel_rfl) (by kernel_rfl) ?_
  refine ql (.int .i64 0) (by kernel_rfl) (by kernel_rfl) ?_
  refine wpList_nil ?_
  refine x_then ?_
  refine wp_ret ?_
  refine ret_ (.tuple #[.pointer (some ⟨g3, 0, none⟩), .int .i64 0]) (by kernel_rfl) ?_
  obtain ⟨ws, hws⟩ : ∃ z_ : List Int, z_ = List.replicate ((((n + 64) - 1) / 64).toNat) 0 := ⟨_, rfl⟩
  have hR : Rep ws n [] := by rw [hws]; exact rep_zero h0 (by omega)
  have hl : ((((n + 64) - 1) / 64).toNat) = ws.length := by rw [hws, List.length_replicate]
  rw [← hws] at HS
  rw [hl] at HS
  exact ⟨_, _, _, ws, by first | rfl | (rw [hl]), HS, hR⟩

set_option maxRecDepth 100000 in
set_option maxHeartbeats 1000000 in
theorem dadd_new (g c : Nat) (A : Option Addr) (ws : List Int) (n : Int) (L : List Int) (i : Int) (W : World) (M : Nat → Prop) (HS : St W M W [blk g [.slice A ws.length c, .int .i64 n] 62, row A ws.length c (ci .u64 ws) 63 1]) (hR : Rep ws n L) (hn : n ≤ 1048576) (h0 : 0 ≤ i) (h1 : i < n) (hi : i ∉ L) : Calls Tryd.prog 12 #[.pointer (some ⟨g, 0, none⟩), .int .i64 i] W fun e W' => ∃ ws', e = .returned (.bool true) ∧ St W M W' [blk g [.slice A ws'.length c, .int .i64 n] 62, row A ws'.length c (ci .u64 ws') 63 1] ∧ Rep ws' n (ins i L) := by
  have hix := hR.idx h0 h1
  refine calls_enter [.pointer (some ⟨g, 0, none⟩), .int .i64 i, undef, undef, undef, undef, undef, undef, undef, undef, undef, undef, undef, undef, undef, undef, undef, undef, undef, undef, undef, undef, undef, undef, undef, undef, undef] Tryd.func12 rfl (by kernel_rfl) ?_
  refine wp_seq ?_
  refine wp_region_lit ?_
  refine ql (.bool false) (by kernel_rfl) (by kernel_rfl) ?_
  refine wpList_nil ?_
  refine x_then ?_
  refine wp_seq ?_
  refine wp_seq ?_
  refine wp_region_lit ?_
  refine ql (.pointer (some ⟨g, 0, none⟩)) (by kernel_rfl) (by kernel_rfl) ?_
  refine ql (.int .i64 i) (by kernel_rfl) (by kernel_rfl) ?_
  refine qc (f := 33) (args := #[.pointer (some ⟨g, 0, none⟩), .int .i64 i]) (by kernel_rfl) (R_call #[.pointer (some ⟨g, 0, none⟩), .int .i64 i] Tryd.func33 (by kernel_rfl) (by kernel_rfl) (by kernel_rfl)) ?_
  refine (dis_t _ _ i _ (HS.cell (i := 0) (j := 1) rfl rfl) h0 h1).mono ?_
  rintro e W1 ⟨rfl, H_⟩
  refine ⟨_, rfl, ?_⟩
  replace HS : St W M W1 [blk g [.slice A ws.length c, .int .i64 n] 62, row A ws.length c (ci .u64 ws) 63 1] := HS.join (F := []) (G := []) H_
  clear H_
  refine ql (.bool false) (by kernel_rfl) (by kernel_rfl) ?_
  refine ql (.bool false) (by kernel_rfl) (by kernel_rfl) ?_
  refine ql (.pointer (some ⟨g, 0, none⟩)) (by kernel_rfl) (by kernel_rfl) ?_
  refine ql (.int .i64 i) (by kernel_rfl) (by kernel_rfl) ?_
  refine qc (f := 16) (args := #[.pointer (some ⟨g, 0, none⟩), .int .i64 i]) (by kernel_rfl) (R_call #[.pointer (some ⟨g, 0, none⟩), .int .i64 i] Tryd.func16 (by kernel_rfl) (by kernel_rfl) (by kernel_rfl)) ?_
  refine (dhas_f g c A ws n L i _ (HS.cell (i := 0) (j := 0) rfl rfl) (HS.cell (i := 0) (j := 1) rfl rfl) (Rd.row HS (i := 1) rfl) hR hn h0 h1 hi).mono ?_
  rintro e W2 ⟨rfl, H_⟩
  refine ⟨_, rfl, ?_⟩
  replace HS : St W M W2 [blk g [.slice A ws.length c, .int .i64 n] 62, row A ws.length c (ci .u64 ws) 63 1] := HS.join (F := []) (G := []) H_
  clear H_
  refine ql (.bool false) (by kernel_rfl) (by kernel_rfl) ?_
  refine wpList_nil ?_
  refine x_then ?_
  refine wp_cond_false (by kernel_rfl) ?_
  refine wp_skip ?_
  refine x_then ?_
  refine wp_seq ?_
  refine rg_still HS 13 (by kernel_rfl) (by kernel_rfl) ?_
  intro W3 H_ HK_
  simp only [List.take_succ_cons, List.take_zero, List.drop_succ_cons, List.drop_zero]
  replace HS : St W M W3 [blk g [.slice A ws.length c, .int .i64 n] 62, row A ws.length c (ci .u64 ws) 63 1] := H_
  clear H_
  clear HK_
  refine qs (.pointer (some ⟨g, 0, none⟩)) (by kernel_rfl) (by kernel_rfl) ?_
  refine qs (.pointer (some ⟨g, 0, none⟩)) (by kernel_rfl) (by kernel_rfl) ?_
  refine qs (.pointer (some ⟨g, 0, none⟩)) (by kernel_rfl) (by kernel_rfl) ?_
  refine qs (.slice A ws.length c) (by kernel_rfl) (R_load (p := ⟨g, 0, none⟩) (by kernel_rfl) (by kernel_rfl) (by kernel_rfl) (HS.cell (i := 0) (j := 0) rfl rfl)) ?_
  refine qs (.int .i64 i) (by kernel_rfl) (by kernel_rfl) ?_
  refine qs (.int .i64 (i / 64)) (by kernel_rfl) (R_quo (by kernel_rfl) (by kernel_rfl) (by omega) (by omega) (by decide)) ?_
  obtain ⟨g4, rfl⟩ := St.rsome HS (i := 1) rfl (by omega)
  refine qs (.pointer (some ⟨g4, (i / 64).toNat, none⟩)) (by kernel_rfl) (R_index1 (k := .i64) (g := g4) (n := ws.length) (c := c) (i := i / 64) (by kernel_rfl) (by kernel_rfl) Tryd.underlying60 (by kernel_rfl) (by omega) (by omega)) ?_
  refine qs (.int .u64 (rdI ws (i / 64))) (by kernel_rfl) (R_load (p := ⟨g4, (i / 64).toNat, none⟩) (by kernel_rfl) (by kernel_rfl) (by kernel_rfl) (HS.rcell (i := 1) rfl (ci_rd (i := i / 64) (by omega) (by omega)))) ?_
  refine qs (.int .i64 i) (by kernel_rfl) (by kernel_rfl) ?_
  refine qs (.int .i64 (i % 64)) (by kernel_rfl) (R_rem2 (by kernel_rfl) (by kernel_rfl) (by omega) (by omega) (by decide)) ?_
  refine qs (.int .u64 (shlW 1 (i % 64))) (by kernel_rfl) (R_shl (k2 := .i64) (by kernel_rfl) (by kernel_rfl) (u_lit 1 (by decide)) (by omega) (by omega)) ?_
  refine qs (.int .u64 (orW (rdI ws (i / 64)) (shlW 1 (i % 64)))) (by kernel_rfl) (R_or (by kernel_rfl) (by kernel_rfl) (hR.rd_at h0 h1) u_shl) ?_
  refine qs (.pointer (some ⟨g4, (i / 64).toNat, none⟩)) (by kernel_rfl) (R_index1 (k := .i64) (g := g4) (n := ws.length) (c := c) (i := i / 64) (by kernel_rfl) (by kernel_rfl) Tryd.underlying60 (by kernel_rfl) (by omega) (by omega)) ?_
  refine wpStill_nil ?_
  refine kr (v := .int .u64 (orW (rdI ws (i / 64)) (shlW 1 (i % 64)))) HS 1 rfl ((i / 64).toNat) [.int .u64 (orW (rdI ws (i / 64)) (shlW 1 (i % 64)))] (by kernel_rfl) (by kernel_rfl) (by kernel_rfl) (by kernel_rfl) (by kernel_rfl) (one_ (by kernel_rfl)) (by rw [ci_len]; first | omega | (simp only [List.length_singleton]; omega)) rfl ?_
  intro W5 H_
  obtain ⟨xs6, xs6_⟩ : ∃ z_ : List Int, z_ = (ws).set (i / 64).toNat (orW (rdI ws (i / 64)) (shlW 1 (i % 64))) := ⟨_, rfl⟩
  replace HS : St W M W5 [blk g [.slice (some ⟨g4, 0, none⟩) ws.length c, .int .i64 n] 62, row (some ⟨g4, 0, none⟩) ws.length c (ci .u64 xs6) 63 1] := H_.cast_ (by rw [xs6_, ← ci_set]; rfl)
  clear H_
  have xs6l : xs6.length = ws.length := by rw [xs6_, List.length_set]; first | done | omega
  refine wpList_nil ?_
  refine x_then ?_
  refine wp_seq ?_
  refine wp_region_lit ?_
  refine ql (.bool true) (by kernel_rfl) (by kernel_rfl) ?_
  refine wpList_nil ?_
  refine x_then ?_
  refine wp_ret ?_
  refine ret_ (.bool true) (by kernel_rfl) ?_
  have hq : Rep xs6 n (ins i L) := by rw [xs6_]; exact hR.add h0 h1 hi
  rw [← xs6l] at HS
  exact ⟨xs6, rfl, HS, hq⟩

set_option maxRecDepth 100000 in
set_option maxHeartbeats 1000000 in
theorem dadd_old (g c : Nat) (A : Option Addr) (ws : List Int) (n : Int) (L : List Int) (i : Int) (W : World) (M : Nat → Prop) (HS : St W M W [blk g [.slice A ws.length c, .int .i64 n] 62, row A ws.length c (ci .u64 ws) 63 1]) (hR : Rep ws n L) (hn : n ≤ 1048576) (hi : i ∈ L) : Calls Tryd.prog 12 #[.pointer (some ⟨g, 0, none⟩), .int .i64 i] W fun e W' => e = .returned (.bool false) ∧ St W M W' [blk g [.slice A ws.length c, .int .i64 n] 62, row A ws.length c (ci .u64 ws) 63 1] := by
  refine calls_enter [.pointer (some ⟨g, 0, none⟩), .int .i64 i, undef, undef, undef, undef, undef, undef, undef, undef, undef, undef, undef, undef, undef, undef, undef, undef, undef, undef, undef, undef, undef, undef, undef, undef, undef] Tryd.func12 rfl (by kernel_rfl) ?_
  refine wp_seq ?_
  refine wp_region_lit ?_
  refine ql (.bool false) (by kernel_rfl) (by kernel_rfl) ?_
  refine wpList_nil ?_
  refine x_then ?_
  refine wp_seq ?_
  refine wp_seq ?_
  refine wp_region_lit ?_
  refine ql (.pointer (some ⟨g, 0, none⟩)) (by kernel_rfl) (by kernel_rfl) ?_
  refine ql (.int .i64 i) (by kernel_rfl) (by kernel_rfl) ?_
  refine qc (f := 33) (args := #[.pointer (some ⟨g, 0, none⟩), .int .i64 i]) (by kernel_rfl) (R_call #[.pointer (some ⟨g, 0, none⟩), .int .i64 i] Tryd.func33 (by kernel_rfl) (by kernel_rfl) (by kernel_rfl)) ?_
  refine (dis_t _ _ i _ (HS.cell (i := 0) (j := 1) rfl rfl) (hR.lim i hi).1 (hR.lim i hi).2).mono ?_
  rintro e W1 ⟨rfl, H_⟩
  refine ⟨_, rfl, ?_⟩
  replace HS : St W M W1 [blk g [.slice A ws.length c, .int .i64 n] 62, row A ws.length c (ci .u64 ws) 63 1] := HS.join (F := []) (G := []) H_
  clear H_
  refine ql (.bool false) (by kernel_rfl) (by kernel_rfl) ?_
  refine ql (.bool false) (by kernel_rfl) (by kernel_rfl) ?_
  refine ql (.pointer (some ⟨g, 0, none⟩)) (by kernel_rfl) (by kernel_rfl) ?_
  refine ql (.int .i64 i) (by kernel_rfl) (by kernel_rfl) ?_
  refine qc (f := 16) (args := #[.pointer (some ⟨g, 0, none⟩), .int .i64 i]) (by kernel_rfl) (R_call #[.pointer (some ⟨g, 0, none⟩), .int .i64 i] Tryd.func16 (by kernel_rfl) (by kernel_rfl) (by kernel_rfl)) ?_
  refine (dhas_t g c A ws n L i _ (HS.cell (i := 0) (j := 0) rfl rfl) (HS.cell (i := 0) (j := 1) rfl rfl) (Rd.row HS (i := 1) rfl) hR hn hi).mono ?_
  rintro e W2 ⟨rfl, H_⟩
  refine ⟨_, rfl, ?_⟩
  replace HS : St W M W2 [blk g [.slice A ws.length c, .int .i64 n] 62, row A ws.length c (ci .u64 ws) 63 1] := HS.join (F := []) (G := []) H_
  clear H_
  refine ql (.bool true) (by kernel_rfl) (by kernel_rfl) ?_
  refine wpList_nil ?_
  refine x_then ?_
  refine wp_cond_true (by kernel_rfl) ?_
  refine wp_seq ?_
  refine wp_region_lit ?_
  refine ql (.bool false) (by kernel_rfl) (by kernel_rfl) ?_
  refine wpList_nil ?_
  refine x_then ?_
  refine wp_ret ?_
  refine x_thenR ?_
  refine ret_ (.bool false) (by kernel_rfl) ?_
  exact ⟨rfl, HS⟩

set_option maxRecDepth 100000 in
set_option maxHeartbeats 1000000 in
theorem dadd_out (g c : Nat) (A : Option Addr) (ws : List Int) (n : Int) (L : List Int) (i : Int) (W : World) (M : Nat → Prop) (HS : St W M W [blk g [.slice A ws.length c, .int .i64 n] 62, row A ws.length c (ci .u64 ws) 63 1]) (hR : Rep ws n L) (hn : n ≤ 1048576) (ho : i < 0 ∨ n ≤ i) : Calls Tryd.prog 12 #[.pointer (some ⟨g, 0, none⟩), .int .i64 i] W fun e W' => e = .returned (.bool false) ∧ St W M W' [blk g [.slice A ws.length c, .int .i64 n] 62, row A ws.length c (ci .u64 ws) 63 1] := by
  refine calls_enter [.pointer (some ⟨g, 0, none⟩), .int .i64 i, undef, undef, undef, undef, undef, undef, undef, undef, undef, undef, undef, undef, undef, undef, undef, undef, undef, undef, undef, undef, undef, undef, undef, undef, undef] Tryd.func12 rfl (by kernel_rfl) ?_
  refine wp_seq ?_
  refine wp_region_lit ?_
  refine ql (.bool false) (by kernel_rfl) (by kernel_rfl) ?_
  refine wpList_nil ?_
  refine x_then ?_
  refine wp_seq ?_
  refine wp_seq ?_
  refine wp_region_lit ?_
  refine ql (.pointer (some ⟨g, 0, none⟩)) (by kernel_rfl) (by kernel_rfl) ?_
  refine ql (.int .i64 i) (by kernel_rfl) (by kernel_rfl) ?_
  refine qc (f := 33) (args := #[.pointer (some ⟨g, 0, none⟩), .int .i64 i]) (by kernel_rfl) (R_call #[.pointer (some ⟨g, 0, none⟩), .int .i64 i] Tryd.func33 (by kernel_rfl) (by kernel_rfl) (by kernel_rfl)) ?_
  refine (dis_f _ _ i _ (HS.cell (i := 0) (j := 1) rfl rfl) ho).mono ?_
  rintro e W1 ⟨rfl, H_⟩
  refine ⟨_, rfl, ?_⟩
  replace HS : St W M W1 [blk g [.slice A ws.length c, .int .i64 n] 62, row A ws.length c (ci .u64 ws) 63 1] := HS.join (F := []) (G := []) H_
  clear H_
  refine ql (.bool true) (by kernel_rfl) (by kernel_rfl) ?_
  refine ql (.bool true) (by kernel_rfl) (by kernel_rfl) ?_
  refine qln (by kernel_rfl) ?_
  refine qln (by kernel_rfl) ?_
  refine qln (by kernel_rfl) ?_
  refine ql (.bool true) (by kernel_rfl) (by kernel_rfl) ?_
  refine wpList_nil ?_
  refine x_then ?_
  refine wp_cond_true (by kernel_rfl) ?_
  refine wp_seq ?_
  refine wp_region_lit ?_
  refine ql (.bool false) (by kernel_rfl) (by kernel_rfl) ?_
  refine wpList_nil ?_
  refine x_then ?_
  refine wp_ret ?_
  refine x_thenR ?_
  refine ret_ (.bool false) (by kernel_rfl) ?_
  exact ⟨rfl, HS⟩

set_option maxRecDepth 100000 in
set_option maxHeartbeats 1000000 in
theorem dcount (g c : Nat) (A : Option Addr) (ws : List Int) (n : Int) (L : List Int) (W : World) (hz0 : W.cell? ⟨g, 0, none⟩ = some (.slice A ws.length c)) (hz1 : W.cell? ⟨g, 1, none⟩ = some (.int .i64 n)) (hr : Rd W A (ci .u64 ws)) (hR : Rep ws n L) (hn : n ≤ 1048576) : Calls Tryd.prog 14 #[.pointer (some ⟨g, 0, none⟩)] W fun e W' => e = .returned (.int .i64 (L.length : Int)) ∧ St W (owns []) W' [] := by
  have HS : St W (owns []) W [] := St.start W _
  have hlen := hR.len
  refine calls_enter [.pointer (some ⟨g, 0, none⟩), undef, undef, undef, undef, undef, undef, undef, undef, undef, undef, undef, undef, undef, undef, undef, undef, undef, undef, undef, undef, undef, undef] Tryd.func14 rfl (by kernel_rfl) ?_
  refine wp_seq ?_
  refine wp_region_lit ?_
  refine ql (.int .i64 0) (by kernel_rfl) (by kernel_rfl) ?_
  refine wpList_nil ?_
  refine x_then ?_
  refine wp_seq ?_
  refine wp_region_lit ?_
  refine ql (.int .i64 0) (by kernel_rfl) (by kernel_rfl) ?_
  refine wpList_nil ?_
  refine x_then ?_
  refine wp_seq ?_
  refine wp_seq ?_
  refine wp_region_lit ?_
  refine ql (.pointer (some ⟨g, 0, none⟩)) (by kernel_rfl) (by kernel_rfl) ?_
  refine ql (.bool true) (by kernel_rfl) (by kernel_rfl) ?_
  refine wpList_nil ?_
  refine x_then ?_
  refine wp_cond_true (by kernel_rfl) ?_
  refine wp_seq ?_
  refine wp_region_lit ?_
  refine ql (.pointer (some ⟨g, 0, none⟩)) (by kernel_rfl) (by kernel_rfl) ?_
  refine ql (.pointer (some ⟨g, 0, none⟩)) (by kernel_rfl) (by kernel_rfl) ?_
  refine ql (.pointer (some ⟨g, 0, none⟩)) (by kernel_rfl) (by kernel_rfl) ?_
  refine ql (.slice A ws.length c) (by kernel_rfl) (R_load (p := ⟨g, 0, none⟩) (by kernel_rfl) (by kernel_rfl) (by kernel_rfl) (HS.old0 hz0)) ?_
  refine ql (.int .i64 (ws.length : Int)) (by kernel_rfl) (by kernel_rfl) ?_
  refine ql (.int .i64 0) (by kernel_rfl) (by kernel_rfl) ?_
  refine wpList_nil ?_
  refine x_then ?_
  refine wp_block ?_
  refine wp_loop_ghost (fun kq a' w' => ∃ (J1 : Nat → Value) (k : Int) (m : Int) , a' = Fr [.pointer (some ⟨g, 0, none⟩), undef, .int .i64 0, .int .i64 m, undef, (J1 5), .pointer (some ⟨g, 0, none⟩), .bool true, .pointer (some ⟨g, 0, none⟩), .pointer (some ⟨g, 0, none⟩), .pointer (some ⟨g, 0, none⟩), .slice A ws.length c, .int .i64 (ws.length : Int), .int .i64 k, (J1 14), (J1 15), (J1 16), (J1 17), (J1 18), (J1 19), (J1 20), (J1 21), undef] ∧ kq = (ws.length - (k).toNat) ∧ (0 ≤ k) ∧ (k ≤ ws.length) ∧ (m = (cntW ws (k).toNat : Nat)) ∧ St W (owns []) w' []) (ws.length - ((0 : Int)).toNat) ⟨(fun k_ : Nat => List.getD [.pointer (some ⟨g, 0, none⟩), undef, .int .i64 0, .int .i64 0, undef, undef, .pointer (some ⟨g, 0, none⟩), .bool true, .pointer (some ⟨g, 0, none⟩), .pointer (some ⟨g, 0, none⟩), .pointer (some ⟨g, 0, none⟩), .slice A ws.length c, .int .i64 (ws.length : Int), .int .i64 0, undef, undef, undef, undef, undef, undef, undef, undef, undef] k_ undef), (0 : Int), (0 : Int), congrArg Fr (by kernel_rfl), rfl, by omega, by omega, rfl, HS⟩ ?_
  clear HS
  intro kq2 a' W3 hrel
  obtain ⟨J1, k, m, rfl, hk, k0, k1, hm, HS⟩ := hrel
  have hcl := cntW_le ws k.toNat
  refine wp_seq ?_
  refine wp_region_lit ?_
  by_cases hc4 : k < (ws.length : Int)
  · skip
    refine ql (.bool true) (by kernel_rfl) (R_bool (p := k < (ws.length : Int)) (by kernel_rfl) (hc4)) ?_
    refine wpList_nil ?_
    refine x_then ?_
    refine wp_seq ?_
    refine wp_cond_true (by kernel_rfl) ?_
    refine wp_skip ?_
    refine x_then ?_
    refine wp_seq ?_
    refine wp_block ?_
    refine wp_seq ?_
    refine wp_region_lit ?_
    obtain ⟨ad5, rfl⟩ := Rd.isSome_ hr (by rw [ci_len]; omega)
    refine ql (.pointer (some (ad5.add k.toNat))) (by kernel_rfl) (R_indexA1 (k := .i64) (p := ad5) (n := ws.length) (c := c) (i := k) (by kernel_rfl) (by kernel_rfl) Tryd.underlying60 (by kernel_rfl) (by omega) (by omega)) ?_
    refine ql (.int .u64 (rdI ws k)) (by kernel_rfl) (R_load (p := ad5.add k.toNat) (by kernel_rfl) (by kernel_rfl) (by kernel_rfl) (HS.old0 (hr.at_ (ci_rd (i := k) (by omega) (by omega))))) ?_
    refine ql (.int .u64 (rdI ws k)) (by kernel_rfl) (by kernel_rfl) ?_
    refine wpList_nil ?_
    refine x_then ?_
    refine wp_region_lit ?_
    refine ql (.int .i64 m) (by kernel_rfl) (by kernel_rfl) ?_
    refine ql (.int .u64 (rdI ws k)) (by kernel_rfl) (by kernel_rfl) ?_
    refine qc (f := 35) (args := #[.int .u64 (rdI ws k)]) (by kernel_rfl) (R_call #[.int .u64 (rdI ws k)] Tryd.func35 (by kernel_rfl) (by kernel_rfl) (by kernel_rfl)) ?_
    obtain ⟨wv, hwv, hwl⟩ := (hR.rd k0 (by omega : k < ws.length)).nat
    rw [hwv]
    refine (ones64 wv _ hwl).mono ?_
    rintro e W6 ⟨rfl, H_⟩
    refine ⟨_, rfl, ?_⟩
    replace HS : St W (owns []) W6 [] := HS.join (F := []) (G := []) H_
    clear H_
    have hpc := pc_le 64 wv
    refine ql (.int .i64 (m + ((pc 64 wv : Nat) : Int))) (by kernel_rfl) (R_int (by kernel_rfl) (w64 (by omega))) ?_
    refine ql (.int .i64 (m + ((pc 64 wv : Nat) : Int))) (by kernel_rfl) (by kernel_rfl) ?_
    refine wpList_nil ?_
    refine x_inb ?_
    refine x_then ?_
    refine wp_region_lit ?_
    refine ql (.int .i64 (k + 1)) (by kernel_rfl) (R_int (by kernel_rfl) (w64 (by omega))) ?_
    refine ql (.int .i64 (k + 1)) (by kernel_rfl) (by kernel_rfl) ?_
    refine wpList_nil ?_
    have hstep : cntW ws (k + 1).toNat = cntW ws k.toNat + pc 64 wv := by rw [show (k + 1).toNat = k.toNat + 1 by omega, cntW_succ, show ((k.toNat : Nat) : Int) = k by omega, hwv, Int.toNat_natCast]
    refine x_then ?_
    exact ⟨ws.length - (k + 1).toNat, by omega, (fun k_ : Nat => List.getD [.pointer (some ⟨g, 0, none⟩), undef, .int .i64 0, .int .i64 (m + ((pc 64 wv : Nat) : Int)), undef, .int .u64 (wv : Int), .pointer (some ⟨g, 0, none⟩), .bool true, .pointer (some ⟨g, 0, none⟩), .pointer (some ⟨g, 0, none⟩), .pointer (some ⟨g, 0, none⟩), .slice (some ad5) ws.length c, .int .i64 (ws.length : Int), .int .i64 (k + 1), .bool true, .pointer (some (ad5.add k.toNat)), .int .u64 (wv : Int), .int .i64 m, .int .u64 (wv : Int), .int .i64 ((pc 64 wv : Nat) : Int), .int .i64 (m + ((pc 64 wv : Nat) : Int)), .int .i64 (k + 1), undef] k_ undef), k + 1, m + ((pc 64 wv : Nat) : Int), congrArg Fr (by kernel_rfl), rfl, by omega, by omega, by omega, HS⟩
  · skip
    refine ql (.bool false) (by kernel_rfl) (R_nbool (p := k < (ws.length : Int)) (by kernel_rfl) (hc4)) ?_
    refine wpList_nil ?_
    refine x_then ?_
    refine wp_seq ?_
    refine wp_cond_false (by kernel_rfl) ?_
    refine wp_exit ?_
    refine x_thenE ?_
    refine x_thenE ?_
    refine x_hit ?_
    refine x_then ?_
    refine wp_seq ?_
    refine wp_region_lit ?_
    refine ql (.int .i64 m) (by kernel_rfl) (by kernel_rfl) ?_
    refine ql (.int .i64 m) (by kernel_rfl) (by kernel_rfl) ?_
    refine wpList_nil ?_
    refine x_then ?_
    refine wp_ret ?_
    refine ret_ (.int .i64 m) (by kernel_rfl) ?_
    have hk9 : k.toNat = ws.length := by omega
    rw [hk9, hR.cnt] at hm
    subst hm
    exact ⟨rfl, HS⟩


theorem TabAt64.old {W0 W : World} {M : Nat → Prop} {L : List Ent} (h : TabAt64 W0) (HS : St W0 M W L) (h0 : 0 < W0.heap.size) (hm : ¬ M 0) : TabAt64 W := fun j hj => by
  have h1 := h j hj
  unfold World.cell? at h1 ⊢
  rw [HS.kept.block 0 h0 hm]
  exact h1
theorem TabAt64.pos {W : World} (h : TabAt64 W) : 0 < W.heap.size := by
  have h1 := h 0 (by decide)
  unfold World.cell? at h1
  refine Nat.pos_of_ne_zero fun e => ?_
  have hn : W.heap[0]? = none := by rw [Array.getElem?_eq_none_iff]; omega
  rw [hn] at h1; simp at h1
theorem TabAt64.old0 {W0 W : World} {L : List Ent} (h : TabAt64 W0) (HS : St W0 (owns []) W L) : TabAt64 W := h.old HS h.pos (by rintro ⟨e, he, _⟩; cases he)
theorem nxt_max {L : List Int} {ws : List Int} {n : Int} (hR : Rep ws n L) (i : Int) : nxt L i = nxt L (max i 0) := by
  by_cases h : i < 0
  · rw [Int.max_eq_right (by omega)]; exact nxt_neg (fun x hx => (hR.lim x hx).1) h
  · rw [Int.max_eq_left (by omega)]
set_option maxRecDepth 100000 in
set_option maxHeartbeats 1000000 in
theorem dnext (g c : Nat) (A : Option Addr) (ws : List Int) (n : Int) (L : List Int) (i : Int) (W : World) (hz0 : W.cell? ⟨g, 0, none⟩ = some (.slice A ws.length c)) (hz1 : W.cell? ⟨g, 1, none⟩ = some (.int .i64 n)) (hr : Rd W A (ci .u64 ws)) (hR : Rep ws n L) (hn : n ≤ 1048576) (hT : TabAt64 W) : Calls Tryd.prog 51 #[.pointer (some ⟨g, 0, none⟩), .int .i64 i] W fun e W' => e = .returned (.int .i64 (nxt L i)) ∧ St W (owns []) W' [] := by
  have HS : St W (owns []) W [] := St.start W _
  obtain ⟨j, hj⟩ : ∃ z_ : Int, z_ = max i 0 := ⟨_, rfl⟩
  have hji : nxt L i = nxt L j := by rw [hj]; exact nxt_max hR i
  have hj0 : 0 ≤ j := by omega
  have hlen := hR.len
  refine calls_enter ((.pointer (some ⟨g, 0, none⟩)) :: (.int .i64 i) :: undef :: undef :: undef :: undef :: undef :: undef :: undef :: undef :: undef :: undef :: undef :: undef :: undef :: undef :: undef :: undef :: undef :: undef :: undef :: undef :: undef :: undef :: undef :: undef :: undef :: undef :: undef :: undef :: undef :: undef :: undef :: undef :: undef :: undef :: undef :: undef :: undef :: undef :: undef :: undef :: undef :: undef :: undef :: undef :: undef :: undef :: undef :: undef :: undef :: []) Tryd.func51 rfl (by kernel_rfl) ?_
  refine wp_seq ?_
  refine wp_region_lit ?_
  refine ql (.int .i64 0) (by kernel_rfl) (by kernel_rfl) ?_
  refine wpList_nil ?_
  refine x_then ?_
  refine wp_seq ?_
  refine wp_region_lit ?_
  refine ql (.int .i64 i) (by kernel_rfl) (by kernel_rfl) ?_
  refine ql (.int .i64 j) (by kernel_rfl) (R_eq (R_max (i := i) (j := 0) (by kernel_rfl) (by kernel_rfl)) (by rw [hj])) ?_
  refine ql (.int .i64 j) (by kernel_rfl) (by kernel_rfl) ?_
  refine wpList_nil ?_
  refine x_then ?_
  refine wp_seq ?_
  refine wp_seq ?_
  refine wp_region_lit ?_
  refine ql (.pointer (some ⟨g, 0, none⟩)) (by kernel_rfl) (by kernel_rfl) ?_
  refine ql (.int .i64 j) (by kernel_rfl) (by kernel_rfl) ?_
  refine qc (f := 33) (args := #[.pointer (some ⟨g, 0, none⟩), .int .i64 j]) (by kernel_rfl) (R_call #[.pointer (some ⟨g, 0, none⟩), .int .i64 j] Tryd.func33 (by kernel_rfl) (by kernel_rfl) (by kernel_rfl)) ?_
  by_cases hjn : j < n
  · skip
    refine (dis_t _ _ j _ (HS.old0 hz1) hj0 hjn).mono ?_
    rintro e W1 ⟨rfl, H_⟩
    refine ⟨_, rfl, ?_⟩
    replace HS : St W (owns []) W1 [] := HS.join (F := []) (G := []) H_
    clear H_
    refine ql (.bool false) (by kernel_rfl) (by kernel_rfl) ?_
    refine wpList_nil ?_
    refine x_then ?_
    refine wp_cond_false (by kernel_rfl) ?_
    refine wp_skip ?_
    refine x_then ?_
    refine wp_seq ?_
    refine wp_region_lit ?_
    refine ql (.int .i64 j) (by kernel_rfl) (by kernel_rfl) ?_
    refine ql (.int .i64 (j / 64)) (by kernel_rfl) (R_quo (by kernel_rfl) (by kernel_rfl) (by omega) (by omega) (by decide)) ?_
    refine ql (.int .i64 (j / 64)) (by kernel_rfl) (by kernel_rfl) ?_
    refine wpList_nil ?_
    refine x_then ?_
    refine wp_seq ?_
    refine wp_region_lit ?_
    refine ql (.pointer (some ⟨g, 0, none⟩)) (by kernel_rfl) (by kernel_rfl) ?_
    refine ql (.pointer (some ⟨g, 0, none⟩)) (by kernel_rfl) (by kernel_rfl) ?_
    refine ql (.pointer (some ⟨g, 0, none⟩)) (by kernel_rfl) (by kernel_rfl) ?_
    refine ql (.slice A ws.length c) (by kernel_rfl) (R_load (p := ⟨g, 0, none⟩) (by kernel_rfl) (by kernel_rfl) (by kernel_rfl) (HS.old0 hz0)) ?_
    refine ql (.int .i64 (j / 64)) (by kernel_rfl) (by kernel_rfl) ?_
    obtain ⟨ad2, rfl⟩ := Rd.isSome_ hr (by rw [ci_len]; omega)
    refine ql (.pointer (some (ad2.add (j / 64).toNat))) (by kernel_rfl) (R_indexA1 (k := .i64) (p := ad2) (n := ws.length) (c := c) (i := j / 64) (by kernel_rfl) (by kernel_rfl) Tryd.underlying60 (by kernel_rfl) (by omega) (by omega)) ?_
    refine ql (.int .u64 (rdI ws (j / 64))) (by kernel_rfl) (R_load (p := ad2.add (j / 64).toNat) (by kernel_rfl) (by kernel_rfl) (by kernel_rfl) (HS.old0 (hr.at_ (ci_rd (i := j / 64) (by omega) (by omega))))) ?_
    refine ql (.int .i64 j) (by kernel_rfl) (by kernel_rfl) ?_
    refine ql (.int .i64 (j % 64)) (by kernel_rfl) (R_rem2 (by kernel_rfl) (by kernel_rfl) (by omega) (by omega) (by decide)) ?_
    refine ql (.int .u64 (shrW (rdI ws (j / 64)) (j % 64))) (by kernel_rfl) (R_shr (k2 := .i64) (by kernel_rfl) (by kernel_rfl) (hR.rd_at hj0 hjn) (by omega) (by omega)) ?_
    refine ql (.int .i64 j) (by kernel_rfl) (by kernel_rfl) ?_
    refine ql (.int .i64 (j % 64)) (by kernel_rfl) (R_rem2 (by kernel_rfl) (by kernel_rfl) (by omega) (by omega) (by decide)) ?_
    refine ql (.int .u64 (shlW (shrW (rdI ws (j / 64)) (j % 64)) (j % 64))) (by kernel_rfl) (R_shl (k2 := .i64) (by kernel_rfl) (by kernel_rfl) (u_shr (hR.rd_at hj0 hjn)) (by omega) (by omega)) ?_
    refine ql (.int .u64 (shlW (shrW (rdI ws (j / 64)) (j % 64)) (j % 64))) (by kernel_rfl) (by kernel_rfl) ?_
    refine wpList_nil ?_
    refine x_then ?_
    refine wp_block ?_
    have hij := hR.idx hj0 hjn
    refine wp_loop_ghost (fun kq a' w' => ∃ (J3 : Nat → Value) (k : Int) (wv : Int) , a' = Fr ((.pointer (some ⟨g, 0, none⟩)) :: (.int .i64 j) :: undef :: undef :: ((J3 4)) :: (.int .i64 k) :: (.int .u64 wv) :: (.int .i64 i) :: (.int .i64 j) :: (.pointer (some ⟨g, 0, none⟩)) :: (.int .i64 j) :: (.bool true) :: (.bool false) :: (.int .i64 j) :: (.int .i64 (j / 64)) :: (.pointer (some ⟨g, 0, none⟩)) :: (.pointer (some ⟨g, 0, none⟩)) :: (.pointer (some ⟨g, 0, none⟩)) :: (.slice (some ad2) ws.length c) :: (.int .i64 (j / 64)) :: (.pointer (some (ad2.add (j / 64).toNat))) :: (.int .u64 (rdI ws (j / 64))) :: (.int .i64 j) :: (.int .i64 (j % 64)) :: (.int .u64 (shrW (rdI ws (j / 64)) (j % 64))) :: (.int .i64 j) :: (.int .i64 (j % 64)) :: (.int .u64 (shlW (shrW (rdI ws (j / 64)) (j % 64)) (j % 64))) :: ((J3 28)) :: ((J3 29)) :: ((J3 30)) :: ((J3 31)) :: ((J3 32)) :: ((J3 33)) :: ((J3 34)) :: ((J3 35)) :: ((J3 36)) :: ((J3 37)) :: ((J3 38)) :: ((J3 39)) :: ((J3 40)) :: ((J3 41)) :: ((J3 42)) :: ((J3 43)) :: ((J3 44)) :: ((J3 45)) :: ((J3 46)) :: ((J3 47)) :: ((J3 48)) :: ((J3 49)) :: ((J3 50)) :: []) ∧ kq = (ws.length - (k).toNat) ∧ (0 ≤ k) ∧ (k < ws.length) ∧ (Nw ws j k wv) ∧ (∀ x ∈ L, j ≤ x → 64 * k ≤ x) ∧ (j < 64 * k + 64) ∧ St W (owns []) w' []) (ws.length - (j / 64).toNat) ⟨(fun k_ : Nat => List.getD ((.pointer (some ⟨g, 0, none⟩)) :: (.int .i64 j) :: undef :: undef :: (.int .i64 0) :: (.int .i64 (j / 64)) :: (.int .u64 (shlW (shrW (rdI ws (j / 64)) (j % 64)) (j % 64))) :: (.int .i64 i) :: (.int .i64 j) :: (.pointer (some ⟨g, 0, none⟩)) :: (.int .i64 j) :: (.bool true) :: (.bool false) :: (.int .i64 j) :: (.int .i64 (j / 64)) :: (.pointer (some ⟨g, 0, none⟩)) :: (.pointer (some ⟨g, 0, none⟩)) :: (.pointer (some ⟨g, 0, none⟩)) :: (.slice (some ad2) ws.length c) :: (.int .i64 (j / 64)) :: (.pointer (some (ad2.add (j / 64).toNat))) :: (.int .u64 (rdI ws (j / 64))) :: (.int .i64 j) :: (.int .i64 (j % 64)) :: (.int .u64 (shrW (rdI ws (j / 64)) (j % 64))) :: (.int .i64 j) :: (.int .i64 (j % 64)) :: (.int .u64 (shlW (shrW (rdI ws (j / 64)) (j % 64)) (j % 64))) :: undef :: undef :: undef :: undef :: undef :: undef :: undef :: undef :: undef :: undef :: undef :: undef :: undef :: undef :: undef :: undef :: undef :: undef :: undef :: undef :: undef :: undef :: undef :: []) k_ undef), j / 64, shlW (shrW (rdI ws (j / 64)) (j % 64)) (j % 64), congrArg Fr (by kernel_rfl), rfl, by omega, by omega, hR.nw_first hj0 hjn, fun x hx h => by omega, by omega, HS⟩ ?_
    clear HS
    intro kq4 a' W5 hrel
    obtain ⟨J3, k, wv, rfl, hk, k0, k1, hw, hlow, hjk, HS⟩ := hrel
    refine wp_seq ?_
    refine wp_block ?_
    refine wp_seq ?_
    refine wp_seq ?_
    refine wp_region_lit ?_
    refine ql (.int .u64 wv) (by kernel_rfl) (by kernel_rfl) ?_
    by_cases hc6 : wv = (0 : Int)
    · skip
      refine ql (.bool false) (by kernel_rfl) (R_beq (b := (wv != (0 : Int))) (by kernel_rfl) (bne_f (hc6))) ?_
      refine wpList_nil ?_
      refine x_then ?_
      refine wp_cond_false (by kernel_rfl) ?_
      refine wp_skip ?_
      refine x_then ?_
      refine wp_seq ?_
      refine wp_region_lit ?_
      refine ql (.int .i64 k) (by kernel_rfl) (by kernel_rfl) ?_
      refine ql (.int .i64 (k + 1)) (by kernel_rfl) (R_int (by kernel_rfl) (w64 (by omega))) ?_
      refine ql (.int .i64 (k + 1)) (by kernel_rfl) (by kernel_rfl) ?_
      refine wpList_nil ?_
      refine x_then ?_
      refine wp_seq ?_
      refine wp_region_lit ?_
      refine ql (.int .i64 (k + 1)) (by kernel_rfl) (by kernel_rfl) ?_
      refine ql (.pointer (some ⟨g, 0, none⟩)) (by kernel_rfl) (by kernel_rfl) ?_
      refine ql (.pointer (some ⟨g, 0, none⟩)) (by kernel_rfl) (by kernel_rfl) ?_
      refine ql (.pointer (some ⟨g, 0, none⟩)) (by kernel_rfl) (by kernel_rfl) ?_
      refine ql (.slice (some ad2) ws.length c) (by kernel_rfl) (R_load (p := ⟨g, 0, none⟩) (by kernel_rfl) (by kernel_rfl) (by kernel_rfl) (HS.old0 hz0)) ?_
      refine ql (.int .i64 (ws.length : Int)) (by kernel_rfl) (by kernel_rfl) ?_
      by_cases hc7 : (k + 1) = (ws.length : Int)
      · skip
        refine ql (.bool true) (by kernel_rfl) (R_beq (b := (k + 1 == (ws.length : Int))) (by kernel_rfl) (beq_t (hc7))) ?_
        refine wpList_nil ?_
        refine x_then ?_
        refine wp_cond_true (by kernel_rfl) ?_
        refine wp_seq ?_
        refine wp_region_lit ?_
        refine ql (.int .i64 (-1)) (by kernel_rfl) (by kernel_rfl) ?_
        refine wpList_nil ?_
        refine x_then ?_
        refine wp_ret ?_
        refine x_inbR ?_
        refine x_thenR ?_
        refine x_thenR ?_
        refine x_inbR ?_
        refine ret_ (.int .i64 (-1)) (by kernel_rfl) ?_
        have hsk := hR.nxt_skip k0 k1 hw hc6 hlow
        exact ⟨by rw [hji, hR.nxt_over (by rw [show (ws.length : Int) = k + 1 by omega]; exact hsk)], HS⟩
      · skip
        refine ql (.bool false) (by kernel_rfl) (R_beq (b := (k + 1 == (ws.length : Int))) (by kernel_rfl) (beq_f (hc7))) ?_
        refine wpList_nil ?_
        refine x_then ?_
        refine wp_cond_false (by kernel_rfl) ?_
        refine wp_skip ?_
        refine x_inb ?_
        refine x_then ?_
        refine wp_region_lit ?_
        refine ql (.pointer (some ⟨g, 0, none⟩)) (by kernel_rfl) (by kernel_rfl) ?_
        refine ql (.pointer (some ⟨g, 0, none⟩)) (by kernel_rfl) (by kernel_rfl) ?_
        refine ql (.pointer (some ⟨g, 0, none⟩)) (by kernel_rfl) (by kernel_rfl) ?_
        refine ql (.slice (some ad2) ws.length c) (by kernel_rfl) (R_load (p := ⟨g, 0, none⟩) (by kernel_rfl) (by kernel_rfl) (by kernel_rfl) (HS.old0 hz0)) ?_
        refine ql (.int .i64 (k + 1)) (by kernel_rfl) (by kernel_rfl) ?_
        refine ql (.pointer (some (ad2.add (k + 1).toNat))) (by kernel_rfl) (R_indexA1 (k := .i64) (p := ad2) (n := ws.length) (c := c) (i := k + 1) (by kernel_rfl) (by kernel_rfl) Tryd.underlying60 (by kernel_rfl) (by omega) (by omega)) ?_
        refine ql (.int .u64 (rdI ws (k + 1))) (by kernel_rfl) (R_load (p := ad2.add (k + 1).toNat) (by kernel_rfl) (by kernel_rfl) (by kernel_rfl) (HS.old0 (hr.at_ (ci_rd (i := k + 1) (by omega) (by omega))))) ?_
        refine ql (.int .u64 (rdI ws (k + 1))) (by kernel_rfl) (by kernel_rfl) ?_
        refine wpList_nil ?_
        refine x_then ?_
        exact ⟨ws.length - (k + 1).toNat, by omega, (fun k_ : Nat => List.getD ((.pointer (some ⟨g, 0, none⟩)) :: (.int .i64 j) :: undef :: undef :: ((J3 4)) :: (.int .i64 (k + 1)) :: (.int .u64 (rdI ws (k + 1))) :: (.int .i64 i) :: (.int .i64 j) :: (.pointer (some ⟨g, 0, none⟩)) :: (.int .i64 j) :: (.bool true) :: (.bool false) :: (.int .i64 j) :: (.int .i64 (j / 64)) :: (.pointer (some ⟨g, 0, none⟩)) :: (.pointer (some ⟨g, 0, none⟩)) :: (.pointer (some ⟨g, 0, none⟩)) :: (.slice (some ad2) ws.length c) :: (.int .i64 (j / 64)) :: (.pointer (some (ad2.add (j / 64).toNat))) :: (.int .u64 (rdI ws (j / 64))) :: (.int .i64 j) :: (.int .i64 (j % 64)) :: (.int .u64 (shrW (rdI ws (j / 64)) (j % 64))) :: (.int .i64 j) :: (.int .i64 (j % 64)) :: (.int .u64 (shlW (shrW (rdI ws (j / 64)) (j % 64)) (j % 64))) :: (.pointer (some ⟨g, 0, none⟩)) :: (.pointer (some ⟨g, 0, none⟩)) :: (.pointer (some ⟨g, 0, none⟩)) :: (.slice (some ad2) ws.length c) :: (.int .i64 (k + 1)) :: (.pointer (some (ad2.add (k + 1).toNat))) :: (.int .u64 (rdI ws (k + 1))) :: (.int .u64 wv) :: (.bool false) :: ((J3 37)) :: ((J3 38)) :: ((J3 39)) :: ((J3 40)) :: ((J3 41)) :: (.int .i64 k) :: (.int .i64 (k + 1)) :: (.int .i64 (k + 1)) :: (.pointer (some ⟨g, 0, none⟩)) :: (.pointer (some ⟨g, 0, none⟩)) :: (.pointer (some ⟨g, 0, none⟩)) :: (.slice (some ad2) ws.length c) :: (.int .i64 (ws.length : Int)) :: (.bool false) :: []) k_ undef), k + 1, rdI ws (k + 1), congrArg Fr (by kernel_rfl), rfl, by omega, by omega, hR.nw_next (by omega) (by omega) (by omega), hR.nxt_skip k0 k1 hw hc6 hlow, by omega, HS⟩
    · skip
      refine ql (.bool true) (by kernel_rfl) (R_beq (b := (wv != (0 : Int))) (by kernel_rfl) (bne_t (hc6))) ?_
      refine wpList_nil ?_
      refine x_then ?_
      refine wp_cond_true (by kernel_rfl) ?_
      refine wp_seq ?_
      refine wp_region_lit ?_
      refine ql (.int .i64 k) (by kernel_rfl) (by kernel_rfl) ?_
      refine ql (.int .i64 (k * 64)) (by kernel_rfl) (R_int (by kernel_rfl) (w64 (by omega))) ?_
      refine ql (.int .u64 wv) (by kernel_rfl) (by kernel_rfl) ?_
      refine qc (f := 57) (args := #[.int .u64 wv]) (by kernel_rfl) (R_call #[.int .u64 wv] Tryd.func57 (by kernel_rfl) (by kernel_rfl) (by kernel_rfl)) ?_
      obtain ⟨wn, hwn, hwl⟩ := hw.1.nat
      subst hwn
      have hf := hR.nxt_found k0 k1 hw (by omega) hlow
      simp only [Int.toNat_natCast] at hf
      obtain ⟨hf1, hf2⟩ := hf
      refine (tz64 wn _ hwl (by omega) (hT.old0 HS)).mono ?_
      rintro e W8 ⟨rfl, H_⟩
      refine ⟨_, rfl, ?_⟩
      replace HS : St W (owns []) W8 [] := HS.join (F := []) (G := []) H_
      clear H_
      refine ql (.int .i64 ((k * 64) + ((Lib.ctz 64 wn : Nat) : Int))) (by kernel_rfl) (R_int (by kernel_rfl) (w64 (by omega))) ?_
      refine ql (.int .i64 ((k * 64) + ((Lib.ctz 64 wn : Nat) : Int))) (by kernel_rfl) (by kernel_rfl) ?_
      refine wpList_nil ?_
      refine x_then ?_
      refine wp_ret ?_
      refine x_thenR ?_
      refine x_inbR ?_
      refine x_thenR ?_
      refine x_thenR ?_
      refine x_inbR ?_
      refine ret_ (.int .i64 ((k * 64) + ((Lib.ctz 64 wn : Nat) : Int))) (by kernel_rfl) ?_
      exact ⟨by rw [hji, hf1], HS⟩
  · skip
    refine (dis_f _ _ j _ (HS.old0 hz1) (by omega)).mono ?_
    rintro e W9 ⟨rfl, H_⟩
    refine ⟨_, rfl, ?_⟩
    replace HS : St W (owns []) W9 [] := HS.join (F := []) (G := []) H_
    clear H_
    refine ql (.bool true) (by kernel_rfl) (by kernel_rfl) ?_
    refine wpList_nil ?_
    refine x_then ?_
    refine wp_cond_true (by kernel_rfl) ?_
    refine wp_seq ?_
    refine wp_region_lit ?_
    refine ql (.int .i64 (-1)) (by kernel_rfl) (by kernel_rfl) ?_
    refine wpList_nil ?_
    refine x_then ?_
    refine wp_ret ?_
    refine x_thenR ?_
    refine ret_ (.int .i64 (-1)) (by kernel_rfl) ?_
    exact ⟨by rw [hji, hR.nxt_out (by omega)], HS⟩


set_option maxRecDepth 100000 in
set_option maxHeartbeats 1000000 in
theorem dor (g c : Nat) (A : Option Addr) (ws : List Int) (n : Int) (h c2 : Nat) (B : Option Addr) (vs : List Int) (L M : List Int) (W : World) (M_ : Nat → Prop) (HS : St W M_ W [blk g [.slice A ws.length c, .int .i64 n] 62, row A ws.length c (ci .u64 ws) 63 1, blk h [.slice B vs.length c2, .int .i64 n] 62, row B vs.length c2 (ci .u64 vs) 63 1]) (hR : Rep ws n L) (hM : Rep vs n M) (hn : n ≤ 1048576) : Calls Tryd.prog 40 #[.pointer (some ⟨g, 0, none⟩), .pointer (some ⟨h, 0, none⟩)] W fun e W' => ∃ ws', e = .returned (.bool (newB L M)) ∧ St W M_ W' [blk g [.slice A ws'.length c, .int .i64 n] 62, row A ws'.length c (ci .u64 ws') 63 1, blk h [.slice B vs.length c2, .int .i64 n] 62, row B vs.length c2 (ci .u64 vs) 63 1] ∧ Rep ws' n (uni L M) := by
  have hwl := hR.len
  have hvl := hM.len
  have hrc := HS.rcap (i := 1) rfl
  refine calls_enter ((.pointer (some ⟨g, 0, none⟩)) :: (.pointer (some ⟨h, 0, none⟩)) :: undef :: undef :: undef :: undef :: undef :: undef :: undef :: undef :: undef :: undef :: undef :: undef :: undef :: undef :: undef :: undef :: undef :: undef :: undef :: undef :: undef :: undef :: undef :: undef :: undef :: undef :: undef :: undef :: undef :: undef :: undef :: undef :: undef :: undef :: undef :: undef :: undef :: undef :: undef :: undef :: undef :: undef :: undef :: undef :: undef :: undef :: undef :: undef :: undef :: undef :: undef :: undef :: undef :: undef :: undef :: undef :: undef :: []) Tryd.func40 rfl (by kernel_rfl) ?_
  refine wp_seq ?_
  refine wp_region_lit ?_
  refine ql (.bool false) (by kernel_rfl) (by kernel_rfl) ?_
  refine wpList_nil ?_
  refine x_then ?_
  refine wp_seq ?_
  refine wp_seq ?_
  refine rg_still HS 16 (by kernel_rfl) (by kernel_rfl) ?_
  intro W1 H_ HK_
  simp only [List.take_succ_cons, List.take_zero, List.drop_succ_cons, List.drop_zero]
  replace HS : St W M_ W1 [blk g [.slice A ws.length c, .int .i64 n] 62, row A ws.length c (ci .u64 ws) 63 1, blk h [.slice B vs.length c2, .int .i64 n] 62, row B vs.length c2 (ci .u64 vs) 63 1] := H_
  clear H_
  clear HK_
  refine qs (.pointer (some ⟨g, 0, none⟩)) (by kernel_rfl) (by kernel_rfl) ?_
  refine qs (.bool false) (by kernel_rfl) (by kernel_rfl) ?_
  refine qs (.bool false) (by kernel_rfl) (by kernel_rfl) ?_
  refine qs (.pointer (some ⟨h, 0, none⟩)) (by kernel_rfl) (by kernel_rfl) ?_
  refine qs (.bool false) (by kernel_rfl) (by kernel_rfl) ?_
  refine qs (.bool false) (by kernel_rfl) (by kernel_rfl) ?_
  refine qs (.bool false) (by kernel_rfl) (by kernel_rfl) ?_
  refine qs (.pointer (some ⟨g, 0, none⟩)) (by kernel_rfl) (by kernel_rfl) ?_
  refine qs (.pointer (some ⟨g, 0, none⟩)) (by kernel_rfl) (by kernel_rfl) ?_
  refine qs (.pointer (some ⟨g, 1, none⟩)) (by kernel_rfl) (by kernel_rfl) ?_
  refine qs (.int .i64 n) (by kernel_rfl) (R_load (p := ⟨g, 1, none⟩) (by kernel_rfl) (by kernel_rfl) (by kernel_rfl) (HS.cell (i := 0) (j := 1) rfl rfl)) ?_
  refine qs (.pointer (some ⟨h, 0, none⟩)) (by kernel_rfl) (by kernel_rfl) ?_
  refine qs (.pointer (some ⟨h, 0, none⟩)) (by kernel_rfl) (by kernel_rfl) ?_
  refine qs (.pointer (some ⟨h, 1, none⟩)) (by kernel_rfl) (by kernel_rfl) ?_
  refine qs (.int .i64 n) (by kernel_rfl) (R_load (p := ⟨h, 1, none⟩) (by kernel_rfl) (by kernel_rfl) (by kernel_rfl) (HS.cell (i := 2) (j := 1) rfl rfl)) ?_
  refine qs (.bool false) (by kernel_rfl) (R_beq (b := (n != n)) (by kernel_rfl) (bne_f (by omega))) ?_
  refine wpStill_nil ?_
  refine ql (.bool false) (by kernel_rfl) (by kernel_rfl) ?_
  refine wpList_nil ?_
  refine x_then ?_
  refine wp_cond_false (by kernel_rfl) ?_
  refine wp_skip ?_
  refine x_then ?_
  refine wp_seq ?_
  refine wp_region_lit ?_
  refine ql (.int .u64 0) (by kernel_rfl) (by kernel_rfl) ?_
  refine wpList_nil ?_
  refine x_then ?_
  refine wp_seq ?_
  refine wp_seq ?_
  refine wp_region_lit ?_
  refine ql (.pointer (some ⟨h, 0, none⟩)) (by kernel_rfl) (by kernel_rfl) ?_
  refine ql (.pointer (some ⟨h, 0, none⟩)) (by kernel_rfl) (by kernel_rfl) ?_
  refine ql (.pointer (some ⟨h, 0, none⟩)) (by kernel_rfl) (by kernel_rfl) ?_
  refine ql (.slice B vs.length c2) (by kernel_rfl) (R_load (p := ⟨h, 0, none⟩) (by kernel_rfl) (by kernel_rfl) (by kernel_rfl) (HS.cell (i := 2) (j := 0) rfl rfl)) ?_
  refine ql (.int .i64 (vs.length : Int)) (by kernel_rfl) (by kernel_rfl) ?_
  refine ql (.int .i64 0) (by kernel_rfl) (by kernel_rfl) ?_
  refine wpList_nil ?_
  refine x_then ?_
  refine wp_block ?_
  refine wp_loop_ghost (fun kq a' w' => ∃ (J2 : Nat → Value) (k : Int) (ch : Int) (cur : List Int) , a' = Fr ((.pointer (some ⟨g, 0, none⟩)) :: (.pointer (some ⟨h, 0, none⟩)) :: undef :: undef :: (.bool false) :: (.int .u64 ch) :: ((J2 6)) :: ((J2 7)) :: (.pointer (some ⟨g, 0, none⟩)) :: (.bool false) :: (.bool false) :: (.pointer (some ⟨h, 0, none⟩)) :: (.bool false) :: (.bool false) :: (.bool false) :: (.pointer (some ⟨g, 0, none⟩)) :: (.pointer (some ⟨g, 0, none⟩)) :: (.pointer (some ⟨g, 1, none⟩)) :: (.int .i64 n) :: (.pointer (some ⟨h, 0, none⟩)) :: (.pointer (some ⟨h, 0, none⟩)) :: (.pointer (some ⟨h, 1, none⟩)) :: (.int .i64 n) :: (.bool false) :: (.bool false) :: (.pointer (some ⟨h, 0, none⟩)) :: (.pointer (some ⟨h, 0, none⟩)) :: (.pointer (some ⟨h, 0, none⟩)) :: (.slice B vs.length c2) :: (.int .i64 (vs.length : Int)) :: (.int .i64 k) :: ((J2 31)) :: ((J2 32)) :: ((J2 33)) :: ((J2 34)) :: ((J2 35)) :: ((J2 36)) :: ((J2 37)) :: ((J2 38)) :: ((J2 39)) :: ((J2 40)) :: ((J2 41)) :: ((J2 42)) :: ((J2 43)) :: ((J2 44)) :: ((J2 45)) :: ((J2 46)) :: ((J2 47)) :: ((J2 48)) :: ((J2 49)) :: ((J2 50)) :: ((J2 51)) :: ((J2 52)) :: ((J2 53)) :: ((J2 54)) :: ((J2 55)) :: ((J2 56)) :: undef :: undef :: []) ∧ kq = (ws.length - (k).toNat) ∧ (0 ≤ k) ∧ (k ≤ ws.length) ∧ (Jn ws vs cur k ch) ∧ St W M_ w' [blk g [.slice A ws.length c, .int .i64 n] 62, row A ws.length c (ci .u64 cur) 63 1, blk h [.slice B vs.length c2, .int .i64 n] 62, row B vs.length c2 (ci .u64 vs) 63 1]) (ws.length - ((0 : Int)).toNat) ⟨(fun k_ : Nat => List.getD ((.pointer (some ⟨g, 0, none⟩)) :: (.pointer (some ⟨h, 0, none⟩)) :: undef :: undef :: (.bool false) :: (.int .u64 0) :: undef :: undef :: (.pointer (some ⟨g, 0, none⟩)) :: (.bool false) :: (.bool false) :: (.pointer (some ⟨h, 0, none⟩)) :: (.bool false) :: (.bool false) :: (.bool false) :: (.pointer (some ⟨g, 0, none⟩)) :: (.pointer (some ⟨g, 0, none⟩)) :: (.pointer (some ⟨g, 1, none⟩)) :: (.int .i64 n) :: (.pointer (some ⟨h, 0, none⟩)) :: (.pointer (some ⟨h, 0, none⟩)) :: (.pointer (some ⟨h, 1, none⟩)) :: (.int .i64 n) :: (.bool false) :: (.bool false) :: (.pointer (some ⟨h, 0, none⟩)) :: (.pointer (some ⟨h, 0, none⟩)) :: (.pointer (some ⟨h, 0, none⟩)) :: (.slice B vs.length c2) :: (.int .i64 (vs.length : Int)) :: (.int .i64 0) :: undef :: undef :: undef :: undef :: undef :: undef :: undef :: undef :: undef :: undef :: undef :: undef :: undef :: undef :: undef :: undef :: undef :: undef :: undef :: undef :: undef :: undef :: undef :: undef :: undef :: undef :: undef :: undef :: []) k_ undef), (0 : Int), (0 : Int), ws, congrArg Fr (by kernel_rfl), rfl, by omega, by omega, Jn.zero ws vs, HS⟩ ?_
  clear HS
  intro kq3 a' W4 hrel
  obtain ⟨J2, k, ch, cur, rfl, hk, k0, k1, hj, HS⟩ := hrel
  have hcl := hj.len
  refine wp_seq ?_
  refine wp_region_lit ?_
  by_cases hc5 : k < (vs.length : Int)
  · skip
    refine ql (.bool true) (by kernel_rfl) (R_bool (p := k < (vs.length : Int)) (by kernel_rfl) (hc5)) ?_
    refine wpList_nil ?_
    refine x_then ?_
    refine wp_seq ?_
    refine wp_cond_true (by kernel_rfl) ?_
    refine wp_skip ?_
    refine x_then ?_
    refine wp_seq ?_
    refine wp_block ?_
    refine wp_seq ?_
    refine wp_region_lit ?_
    refine ql (.int .i64 k) (by kernel_rfl) (by kernel_rfl) ?_
    obtain ⟨g6, rfl⟩ := St.rsome HS (i := 3) rfl (by omega)
    refine ql (.pointer (some ⟨g6, k.toNat, none⟩)) (by kernel_rfl) (R_index1 (k := .i64) (g := g6) (n := vs.length) (c := c2) (i := k) (by kernel_rfl) (by kernel_rfl) Tryd.underlying60 (by kernel_rfl) (by omega) (by omega)) ?_
    refine ql (.int .u64 (rdI vs k)) (by kernel_rfl) (R_load (p := ⟨g6, k.toNat, none⟩) (by kernel_rfl) (by kernel_rfl) (by kernel_rfl) (HS.rcell (i := 3) rfl (ci_rd (i := k) (by omega) (by omega)))) ?_
    refine ql (.int .i64 k) (by kernel_rfl) (by kernel_rfl) ?_
    refine ql (.int .u64 (rdI vs k)) (by kernel_rfl) (by kernel_rfl) ?_
    refine wpList_nil ?_
    refine x_then ?_
    refine wp_seq ?_
    refine wp_region_lit ?_
    refine ql (.int .u64 ch) (by kernel_rfl) (by kernel_rfl) ?_
    refine ql (.int .u64 (rdI vs k)) (by kernel_rfl) (by kernel_rfl) ?_
    refine ql (.pointer (some ⟨g, 0, none⟩)) (by kernel_rfl) (by kernel_rfl) ?_
    refine ql (.pointer (some ⟨g, 0, none⟩)) (by kernel_rfl) (by kernel_rfl) ?_
    refine ql (.pointer (some ⟨g, 0, none⟩)) (by kernel_rfl) (by kernel_rfl) ?_
    refine ql (.slice A ws.length c) (by kernel_rfl) (R_load (p := ⟨g, 0, none⟩) (by kernel_rfl) (by kernel_rfl) (by kernel_rfl) (HS.cell (i := 0) (j := 0) rfl rfl)) ?_
    refine ql (.int .i64 k) (by kernel_rfl) (by kernel_rfl) ?_
    obtain ⟨g7, rfl⟩ := St.rsome HS (i := 1) rfl (by omega)
    refine ql (.pointer (some ⟨g7, k.toNat, none⟩)) (by kernel_rfl) (R_index1 (k := .i64) (g := g7) (n := ws.length) (c := c) (i := k) (by kernel_rfl) (by kernel_rfl) Tryd.underlying60 (by kernel_rfl) (by omega) (by omega)) ?_
    refine ql (.int .u64 (rdI cur k)) (by kernel_rfl) (R_load (p := ⟨g7, k.toNat, none⟩) (by kernel_rfl) (by kernel_rfl) (by kernel_rfl) (HS.rcell (i := 1) rfl (ci_rd (i := k) (by omega) (by omega)))) ?_
    refine ql (.int .u64 (anW (rdI vs k) (rdI cur k))) (by kernel_rfl) (R_an (by kernel_rfl) (by kernel_rfl) (hM.rd k0 (by omega)) (by rw [hj.hi k (by omega) (by omega)]; exact hR.rd k0 (by omega))) ?_
    refine ql (.int .u64 (orW ch (anW (rdI vs k) (rdI cur k)))) (by kernel_rfl) (R_or (by kernel_rfl) (by kernel_rfl) hj.u (u_an (hM.rd k0 (by omega)) (by rw [hj.hi k (by omega) (by omega)]; exact hR.rd k0 (by omega)))) ?_
    refine ql (.int .u64 (orW ch (anW (rdI vs k) (rdI cur k)))) (by kernel_rfl) (by kernel_rfl) ?_
    refine wpList_nil ?_
    refine x_then ?_
    refine wp_region_lit ?_
    refine ql (.pointer (some ⟨g, 0, none⟩)) (by kernel_rfl) (by kernel_rfl) ?_
    refine ql (.pointer (some ⟨g, 0, none⟩)) (by kernel_rfl) (by kernel_rfl) ?_
    refine ql (.pointer (some ⟨g, 0, none⟩)) (by kernel_rfl) (by kernel_rfl) ?_
    refine ql (.slice (some ⟨g7, 0, none⟩) ws.length c) (by kernel_rfl) (R_load (p := ⟨g, 0, none⟩) (by kernel_rfl) (by kernel_rfl) (by kernel_rfl) (HS.cell (i := 0) (j := 0) rfl rfl)) ?_
    refine ql (.int .i64 k) (by kernel_rfl) (by kernel_rfl) ?_
    refine ql (.pointer (some ⟨g7, k.toNat, none⟩)) (by kernel_rfl) (R_index1 (k := .i64) (g := g7) (n := ws.length) (c := c) (i := k) (by kernel_rfl) (by kernel_rfl) Tryd.underlying60 (by kernel_rfl) (by omega) (by omega)) ?_
    refine ql (.int .u64 (rdI cur k)) (by kernel_rfl) (R_load (p := ⟨g7, k.toNat, none⟩) (by kernel_rfl) (by kernel_rfl) (by kernel_rfl) (HS.rcell (i := 1) rfl (ci_rd (i := k) (by omega) (by omega)))) ?_
    refine ql (.int .u64 (rdI vs k)) (by kernel_rfl) (by kernel_rfl) ?_
    refine ql (.int .u64 (orW (rdI cur k) (rdI vs k))) (by kernel_rfl) (R_or (by kernel_rfl) (by kernel_rfl) (by rw [hj.hi k (by omega) (by omega)]; exact hR.rd k0 (by omega)) (hM.rd k0 (by omega))) ?_
    refine ql (.pointer (some ⟨g7, k.toNat, none⟩)) (by kernel_rfl) (R_index1 (k := .i64) (g := g7) (n := ws.length) (c := c) (i := k) (by kernel_rfl) (by kernel_rfl) Tryd.underlying60 (by kernel_rfl) (by omega) (by omega)) ?_
    refine kr (v := .int .u64 (orW (rdI cur k) (rdI vs k))) HS 1 rfl (k.toNat) [.int .u64 (orW (rdI cur k) (rdI vs k))] (by kernel_rfl) (by kernel_rfl) (by kernel_rfl) (by kernel_rfl) (by kernel_rfl) (one_ (by kernel_rfl)) (by rw [ci_len]; first | omega | (simp only [List.length_singleton]; omega)) rfl ?_
    intro W8 H_
    obtain ⟨xs9, xs9_⟩ : ∃ z_ : List Int, z_ = (cur).set k.toNat (orW (rdI cur k) (rdI vs k)) := ⟨_, rfl⟩
    replace HS : St W M_ W8 [blk g [.slice (some ⟨g7, 0, none⟩) ws.length c, .int .i64 n] 62, row (some ⟨g7, 0, none⟩) ws.length c (ci .u64 xs9) 63 1, blk h [.slice (some ⟨g6, 0, none⟩) vs.length c2, .int .i64 n] 62, row (some ⟨g6, 0, none⟩) vs.length c2 (ci .u64 vs) 63 1] := H_.cast_ (by rw [xs9_, ← ci_set]; rfl)
    clear H_
    have xs9l : xs9.length = ws.length := by rw [xs9_, List.length_set]; first | done | omega
    refine wpList_nil ?_
    refine x_inb ?_
    refine x_then ?_
    refine wp_region_lit ?_
    refine ql (.int .i64 (k + 1)) (by kernel_rfl) (R_int (by kernel_rfl) (w64 (by omega))) ?_
    refine ql (.int .i64 (k + 1)) (by kernel_rfl) (by kernel_rfl) ?_
    refine wpList_nil ?_
    refine x_then ?_
    exact ⟨ws.length - (k + 1).toNat, by omega, (fun k_ : Nat => List.getD ((.pointer (some ⟨g, 0, none⟩)) :: (.pointer (some ⟨h, 0, none⟩)) :: undef :: undef :: (.bool false) :: (.int .u64 (orW ch (anW (rdI vs k) (rdI cur k)))) :: (.int .i64 k) :: (.int .u64 (rdI vs k)) :: (.pointer (some ⟨g, 0, none⟩)) :: (.bool false) :: (.bool false) :: (.pointer (some ⟨h, 0, none⟩)) :: (.bool false) :: (.bool false) :: (.bool false) :: (.pointer (some ⟨g, 0, none⟩)) :: (.pointer (some ⟨g, 0, none⟩)) :: (.pointer (some ⟨g, 1, none⟩)) :: (.int .i64 n) :: (.pointer (some ⟨h, 0, none⟩)) :: (.pointer (some ⟨h, 0, none⟩)) :: (.pointer (some ⟨h, 1, none⟩)) :: (.int .i64 n) :: (.bool false) :: (.bool false) :: (.pointer (some ⟨h, 0, none⟩)) :: (.pointer (some ⟨h, 0, none⟩)) :: (.pointer (some ⟨h, 0, none⟩)) :: (.slice (some ⟨g6, 0, none⟩) vs.length c2) :: (.int .i64 (vs.length : Int)) :: (.int .i64 (k + 1)) :: (.bool true) :: (.int .i64 k) :: (.pointer (some ⟨g6, k.toNat, none⟩)) :: (.int .u64 (rdI vs k)) :: (.int .u64 ch) :: (.int .u64 (rdI vs k)) :: (.pointer (some ⟨g, 0, none⟩)) :: (.pointer (some ⟨g, 0, none⟩)) :: (.pointer (some ⟨g, 0, none⟩)) :: (.slice (some ⟨g7, 0, none⟩) ws.length c) :: (.int .i64 k) :: (.pointer (some ⟨g7, k.toNat, none⟩)) :: (.int .u64 (rdI cur k)) :: (.int .u64 (anW (rdI vs k) (rdI cur k))) :: (.int .u64 (orW ch (anW (rdI vs k) (rdI cur k)))) :: (.pointer (some ⟨g, 0, none⟩)) :: (.pointer (some ⟨g, 0, none⟩)) :: (.pointer (some ⟨g, 0, none⟩)) :: (.slice (some ⟨g7, 0, none⟩) ws.length c) :: (.int .i64 k) :: (.pointer (some ⟨g7, k.toNat, none⟩)) :: (.int .u64 (rdI cur k)) :: (.int .u64 (rdI vs k)) :: (.int .u64 (orW (rdI cur k) (rdI vs k))) :: (.pointer (some ⟨g7, k.toNat, none⟩)) :: (.int .i64 (k + 1)) :: undef :: undef :: []) k_ undef), k + 1, orW ch (anW (rdI vs k) (rdI cur k)), xs9, congrArg Fr (by kernel_rfl), rfl, by omega, by omega, (by rw [xs9_]; exact hj.step k0 (by omega) (hR.rd k0 (by omega)) (hM.rd k0 (by omega))), HS⟩
  · skip
    refine ql (.bool false) (by kernel_rfl) (R_nbool (p := k < (vs.length : Int)) (by kernel_rfl) (hc5)) ?_
    refine wpList_nil ?_
    refine x_then ?_
    refine wp_seq ?_
    refine wp_cond_false (by kernel_rfl) ?_
    refine wp_exit ?_
    refine x_thenE ?_
    refine x_thenE ?_
    refine x_hit ?_
    refine x_then ?_
    refine wp_seq ?_
    refine wp_region_lit ?_
    refine ql (.int .u64 ch) (by kernel_rfl) (by kernel_rfl) ?_
    by_cases hc10 : ch = (0 : Int)
    · skip
      refine ql (.bool false) (by kernel_rfl) (R_beq (b := (ch != (0 : Int))) (by kernel_rfl) (bne_f (hc10))) ?_
      refine ql (.bool false) (by kernel_rfl) (by kernel_rfl) ?_
      refine wpList_nil ?_
      refine x_then ?_
      refine wp_ret ?_
      refine ret_ (.bool false) (by kernel_rfl) ?_
      have hk9 : k = ws.length := by omega
      rw [hk9] at hj
      obtain ⟨hq, hz9⟩ := hR.join hM hj
      rw [← hcl] at HS
      exact ⟨cur, by rw [newB_f (hz9.1 hc10)], HS, hq⟩
    · skip
      refine ql (.bool true) (by kernel_rfl) (R_beq (b := (ch != (0 : Int))) (by kernel_rfl) (bne_t (hc10))) ?_
      refine ql (.bool true) (by kernel_rfl) (by kernel_rfl) ?_
      refine wpList_nil ?_
      refine x_then ?_
      refine wp_ret ?_
      refine ret_ (.bool true) (by kernel_rfl) ?_
      have hk9 : k = ws.length := by omega
      rw [hk9] at hj
      obtain ⟨hq, hz9⟩ := hR.join hM hj
      rw [← hcl] at HS
      exact ⟨cur, by rw [newB_t (fun h_ => hc10 (hz9.2 h_))], HS, hq⟩

set_option maxRecDepth 100000 in
set_option maxHeartbeats 1000000 in
theorem clU (ad : Addr) (ws : List Int) (c : Nat) (W : World) (hr : Rd W (some ad) (ci .u64 ws)) (hl : ws.length ≤ 100000) : Calls Tryd.prog 52 #[.slice (some ad) ws.length c] W fun e W' => ∃ A' c', e = .returned (.slice A' ws.length c') ∧ St W (owns []) W' [row A' ws.length c' (ci .u64 ws) 63 1] := by
  have HS : St W (owns []) W [] := St.start W _
  have hrc := hl
  refine calls_enter [.slice (some ad) ws.length c, undef, undef, undef, undef, undef, undef, undef] Tryd.func52 rfl (by kernel_rfl) ?_
  refine wp_seq ?_
  refine wp_region_lit ?_
  refine ql (.slice none 0 0) (by kernel_rfl) (by kernel_rfl) ?_
  refine wpList_nil ?_
  refine x_then ?_
  refine wp_seq ?_
  refine wp_seq ?_
  refine wp_region_lit ?_
  refine ql (.slice (some ad) ws.length c) (by kernel_rfl) (by kernel_rfl) ?_
  refine ql (.bool false) (by kernel_rfl) (by kernel_rfl) ?_
  refine wpList_nil ?_
  refine x_then ?_
  refine wp_cond_false (by kernel_rfl) ?_
  refine wp_skip ?_
  refine x_then ?_
  refine wp_seq ?_
  refine wp_region_lit ?_
  refine kl HS 0 [] 63 1 (by kernel_rfl) (by kernel_rfl) rfl (by decide) ?_
  intro g1 W2 H_
  replace HS : St W (owns []) W2 [row (some ⟨g1, 0, none⟩) 0 0 (ci .u64 ([])) 63 1] := H_.cast_ (by kernel_rfl)
  clear H_
  refine ql (.slice (some ad) ws.length c) (by kernel_rfl) (by kernel_rfl) ?_
  obtain ⟨xs6, xs6_⟩ : ∃ z_ : List Int, z_ = ([]) ++ ws := ⟨_, rfl⟩
  have xs6l : xs6.length = 0 + ws.length := by rw [xs6_, List.length_append] <;> (try simp only [List.length_cons, List.length_nil]) <;> omega
  refine ka1 HS 0 rfl (Src.of_rd' (n := ws.length) (c := c) (z := 1) (hr.old0 HS) (by rw [ci_len]; omega) (by decide) ci_one) [.int .u64 0] 8 xs6.length (ci .u64 xs6) (by omega) (by rw [xs6_, ci_app]) (by kernel_rfl) (by kernel_rfl) (by kernel_rfl) Tryd.underlying60 (by kernel_rfl) (by kernel_rfl) (by kernel_rfl) (by kernel_rfl) (by decide) (by omega) (by omega) ?_
  intro A3 c4 W5 H_
  replace HS : St W (owns []) W5 [row A3 xs6.length c4 (ci .u64 xs6) 63 1] := H_
  clear H_
  refine ql (.slice A3 xs6.length c4) (by kernel_rfl) (by kernel_rfl) ?_
  refine wpList_nil ?_
  refine x_then ?_
  refine wp_ret ?_
  refine ret_ (.slice A3 xs6.length c4) (by kernel_rfl) ?_
  have hq : xs6 = ws := by rw [xs6_]; rfl
  subst hq
  exact ⟨_, _, rfl, HS⟩

set_option maxRecDepth 100000 in
set_option maxHeartbeats 1000000 in
theorem dclone (g c : Nat) (ad : Addr) (ws : List Int) (n : Int) (L : List Int) (W : World) (hz0 : W.cell? ⟨g, 0, none⟩ = some (.slice (some ad) ws.length c)) (hz1 : W.cell? ⟨g, 1, none⟩ = some (.int .i64 n)) (hr : Rd W (some ad) (ci .u64 ws)) (hR : Rep ws n L) (hn : n ≤ 1048576) : Calls Tryd.prog 42 #[.pointer (some ⟨g, 0, none⟩)] W fun e W' => ∃ h A' c', e = .returned (.pointer (some ⟨h, 0, none⟩)) ∧ St W (owns []) W' [blk h [.slice A' ws.length c', .int .i64 n] 62, row A' ws.length c' (ci .u64 ws) 63 1] := by
  have HS : St W (owns []) W [] := St.start W _
  have hlen := hR.len
  refine calls_enter [.pointer (some ⟨g, 0, none⟩), undef, undef, undef, undef, undef, undef, undef, undef, undef, undef, undef, undef, undef, undef, undef] Tryd.func42 rfl (by kernel_rfl) ?_
  refine wp_seq ?_
  refine wp_region_lit ?_
  refine ql (.pointer none) (by kernel_rfl) (by kernel_rfl) ?_
  refine wpList_nil ?_
  refine x_then ?_
  refine wp_seq ?_
  refine wp_seq ?_
  refine wp_region_lit ?_
  refine ql (.pointer (some ⟨g, 0, none⟩)) (by kernel_rfl) (by kernel_rfl) ?_
  refine ql (.bool false) (by kernel_rfl) (by kernel_rfl) ?_
  refine wpList_nil ?_
  refine x_then ?_
  refine wp_cond_false (by kernel_rfl) ?_
  refine wp_skip ?_
  refine x_then ?_
  refine wp_seq ?_
  refine t_start HS (fun _ => False) 12 (by kernel_rfl) rfl ?_
  intro W1 H_ HD_
  clear HD_
  replace HS : St W (owns []) W1 [] := H_
  clear H_
  have HV := HS
  have HK := Kpt.refl (fun _ => False) W1
  refine t_q (n := 11) 0 (.pointer (some ⟨g, 0, none⟩)) rfl (by kernel_rfl) (by kernel_rfl) (fun _ _ _ h => h) (fun w' hk => (by kernel_rfl)) HK ?_
  refine t_q (n := 10) 1 (.pointer (some ⟨g, 0, none⟩)) rfl (by kernel_rfl) (by kernel_rfl) (fun _ _ _ h => h) (fun w' hk => (by kernel_rfl)) HK ?_
  refine t_q (n := 9) 2 (.pointer (some ⟨g, 0, none⟩)) rfl (by kernel_rfl) (by kernel_rfl) (fun _ _ _ h => h) (fun w' hk => (by kernel_rfl)) HK ?_
  refine t_q (n := 8) 3 (.slice (some ad) ws.length c) rfl (by kernel_rfl) (by kernel_rfl) (fun _ _ _ h => h) (fun w' hk => (R_load (p := ⟨g, 0, none⟩) (by kernel_rfl) (by kernel_rfl) (by kernel_rfl) (hk.cell (HV.old0 hz0)))) HK ?_
  refine t_q (n := 7) 5 (.pointer (some ⟨g, 0, none⟩)) rfl (by kernel_rfl) (by kernel_rfl) (fun _ _ _ h => h) (fun w' hk => (by kernel_rfl)) HK ?_
  refine t_q (n := 6) 6 (.pointer (some ⟨g, 0, none⟩)) rfl (by kernel_rfl) (by kernel_rfl) (fun _ _ _ h => h) (fun w' hk => (by kernel_rfl)) HK ?_
  refine t_q (n := 5) 7 (.pointer (some ⟨g, 1, none⟩)) rfl (by kernel_rfl) (by kernel_rfl) (fun _ _ _ h => h) (fun w' hk => (by kernel_rfl)) HK ?_
  refine t_q (n := 4) 8 (.int .i64 n) rfl (by kernel_rfl) (by kernel_rfl) (fun _ _ _ h => h) (fun w' hk => (R_load (p := ⟨g, 1, none⟩) (by kernel_rfl) (by kernel_rfl) (by kernel_rfl) (hk.cell (HV.old0 hz1)))) HK ?_
  refine t_c (n := 3) 4 (f := 52) (args := #[.slice (some ad) ws.length c]) rfl (by kernel_rfl) (by kernel_rfl) (R_call #[.slice (some ad) ws.length c] Tryd.func52 (by kernel_rfl) (by kernel_rfl) (by kernel_rfl)) ?_
  refine (clU ad ws c _ (hr.old0 HS) (by omega)).mono ?_
  rintro e W2 ⟨A8, c8, rfl, H_⟩
  refine ⟨_, rfl, HK.tr H_.kept.nil, ?_⟩
  replace HK := HK.tr H_.kept.nil
  replace HS : St W (owns []) W2 [row A8 ws.length c8 (ci .u64 ws) 63 1] := HS.join (F := []) (G := [row A8 ws.length c8 (ci .u64 ws) 63 1]) H_
  clear H_
  refine t_q (n := 2) 9 (.agg #[.slice A8 ws.length c8, .int .i64 n]) rfl (by kernel_rfl) (by kernel_rfl) (fun _ _ _ h => h) (fun w' hk => (by kernel_rfl)) HK ?_
  obtain ⟨g3, W4, hg_, hw_, H_, hk_⟩ := ex_blk HS [.slice A8 ws.length c8, .int .i64 n] 62
  refine t_e (n := 1) 10 (.pointer (some ⟨g3, 0, none⟩)) rfl (by kernel_rfl) (by kernel_rfl) (by subst hg_; subst hw_; kernel_rfl) (HK.tr hk_) ?_
  replace HK := HK.tr hk_
  clear hk_
  clear hg_ hw_
  replace HS : St W (owns []) W4 [blk g3 [.slice A8 ws.length c8, .int .i64 n] 62, row A8 ws.length c8 (ci .u64 ws) 63 1] := H_
  clear H_
  refine t_q (n := 0) 11 (.pointer (some ⟨g3, 0, none⟩)) rfl (by kernel_rfl) (by kernel_rfl) (fun _ _ _ h => h) (fun w' hk => (by kernel_rfl)) HK ?_
  refine t_done (by kernel_rfl) ?_
  clear HV HK
  refine x_then ?_
  refine wp_ret ?_
  refine ret_ (.pointer (some ⟨g3, 0, none⟩)) (by kernel_rfl) ?_
  exact ⟨g3, A8, c8, rfl, HS⟩

set_option maxRecDepth 100000 in
set_option maxHeartbeats 1000000 in
theorem dall (g : Nat) (W : World) : Calls Tryd.prog 39 #[.pointer (some ⟨g, 0, none⟩)] W fun e W' => ∃ b, e = .returned (.func (.func 50) #[] #[.pointer (some ⟨b, 0, none⟩)]) ∧ St W (owns []) W' [blk b [.pointer (some ⟨g, 0, none⟩)] 40] := by
  have HS : St W (owns []) W [] := St.start W _
  refine calls_enter [.pointer (some ⟨g, 0, none⟩), undef, undef, undef] Tryd.func39 rfl (by kernel_rfl) ?_
  refine wp_seq ?_
  refine wp_region_lit ?_
  refine kb HS [.pointer (some ⟨g, 0, none⟩)] 40 (fun g => .pointer (some ⟨g, 0, none⟩)) (by kernel_rfl) (by kernel_rfl) ?_
  intro g1 W2 H_
  replace HS : St W (owns []) W2 [blk g1 [.pointer (some ⟨g, 0, none⟩)] 40] := H_
  clear H_
  refine ql (.nilFunc) (by kernel_rfl) (by kernel_rfl) ?_
  refine wpList_nil ?_
  refine x_then ?_
  refine wp_seq ?_
  refine wp_region_lit ?_
  refine ql (.func (.func 50) #[] #[.pointer (some ⟨g1, 0, none⟩)]) (by kernel_rfl) (by kernel_rfl) ?_
  refine ql (.func (.func 50) #[] #[.pointer (some ⟨g1, 0, none⟩)]) (by kernel_rfl) (by kernel_rfl) ?_
  refine wpList_nil ?_
  refine x_then ?_
  refine wp_ret ?_
  refine ret_ (.func (.func 50) #[] #[.pointer (some ⟨g1, 0, none⟩)]) (by kernel_rfl) ?_
  exact ⟨_, rfl, HS⟩


theorem TabAt64.put {W : World} {l : Nat} {o o' : Obj} (h : TabAt64 W) (hl : W.heap[l]? = some o) (ho : o.isCells = false) : TabAt64 (W.putObj l o') := fun j hj => by
  have hp := h j hj
  obtain ⟨o2, h2, h3⟩ := cells_of_cell hp
  refine (World.cell?_of_block (World.putObj_heap_other (fun e => ?_))).trans hp
  rw [e, hl] at h2; cases h2; rw [ho] at h3; cases h3
theorem TabAt64.below {W W' : World} (h : TabAt64 W) (hb : Below W.heap.size W W') : TabAt64 W' := fun j hj => (hb.cell (World.block_lt_of_cell? W _ (h j hj))).trans (h j hj)
/-- What the iterator over a set reads. -/
def DnT (b g c : Nat) (A : Option Addr) (ws : List Int) (n : Int) (W : World) : Prop := DnI b g c A ws n W ∧ TabAt64 W
theorem DnT.below {b g c : Nat} {A : Option Addr} {ws : List Int} {n : Int} {W W' : World} (h : DnT b g c A ws n W) (hb : Below W.heap.size W W') : DnT b g c A ws n W' := ⟨h.1.tail_ hb, h.2.below hb⟩
theorem DnT.put {b g c : Nat} {A : Option Addr} {ws : List Int} {n : Int} {W : World} {l : Nat} {o o' : Obj} (h : DnT b g c A ws n W) (hl : W.heap[l]? = some o) (ho : o.isCells = false) : DnT b g c A ws n (W.putObj l o') := ⟨h.1.put hl ho, h.2.put hl ho⟩
def DnK (b g c : Nat) (A : Option Addr) (ws : List Int) (n : Int) (W W' : World) : Prop := DnT b g c A ws n W → DnT b g c A ws n W'

set_option maxRecDepth 100000 in
set_option maxHeartbeats 1000000 in
theorem dall_stops (b : Nat) (g c : Nat) (A : Option Addr) (ws : List Int) (n : Int) (L : List Int) (W : World) (hb : W.cell? ⟨b, 0, none⟩ = some (.pointer (some ⟨g, 0, none⟩))) (hz0 : W.cell? ⟨g, 0, none⟩ = some (.slice A ws.length c)) (hz1 : W.cell? ⟨g, 1, none⟩ = some (.int .i64 n)) (hr : Rd W A (ci .u64 ws)) (hR : Rep ws n L) (hn : n ≤ 1048576) (hT : TabAt64 W) (m : Nat) : SeqStopsK Fence.wide m Tryd.prog 50 #[.pointer (some ⟨b, 0, none⟩)] encI (DnK b g c A ws n) (fun xs => xs = L) (fun pre => pre <+: L) L.length W := by
  intro l J Jx WA hW hJ hJx hY h0
  have HD0 := (show DnT b g c A ws n W from ⟨⟨hb, hz0, hz1, hr⟩, hT⟩).below hW
  clear hb hz0 hz1 hr hT hW
  have HDc := HD0
  obtain ⟨⟨hb, hz0, hz1, hr⟩, hT⟩ := HDc
  have hJ0 := h0
  refine (callsIn_wide (n := m)).2 ?_
  have HS : St WA (owns []) WA [] := St.start WA _
  refine calls_enter [.func (.yield l) #[] #[], .pointer (some ⟨b, 0, none⟩), undef, undef, undef, undef, undef, undef, undef, undef, undef, undef, undef, undef, undef, undef, undef] Tryd.func50 rfl (by kernel_rfl) ?_
  refine wp_seq ?_
  refine wp_region_lit ?_
  refine ql (.pointer (some ⟨g, 0, none⟩)) (by kernel_rfl) (R_load (p := ⟨b, 0, none⟩) (by kernel_rfl) (by kernel_rfl) (by kernel_rfl) (HS.old0 hb)) ?_
  refine qc (f := 51) (args := #[.pointer (some ⟨g, 0, none⟩), .int .i64 0]) (by kernel_rfl) (R_call #[.pointer (some ⟨g, 0, none⟩), .int .i64 0] Tryd.func51 (by kernel_rfl) (by kernel_rfl) (by kernel_rfl)) ?_
  refine (dnext g c A ws n L 0 _ (HS.old0 hz0) (HS.old0 hz1) (hr.old0 HS) hR hn (hT.old0 HS)).mono ?_
  rintro e W1 ⟨rfl, H_⟩
  refine ⟨_, rfl, ?_⟩
  replace HS : St WA (owns []) W1 [] := HS.join (F := []) (G := []) H_
  clear H_
  refine ql (.int .i64 (nxt L 0)) (by kernel_rfl) (by kernel_rfl) ?_
  refine wpList_nil ?_
  refine x_then ?_
  refine wp_block ?_
  have HB := HS.kept.below owns_nil
  have HD := HD0.below HB
  have HJ := hJ _ _ _ none h0 HS.grownBy0 (fun _ h_ => nomatch h_)
  refine wp_loop_ghost (fun kq a' w' => ∃ (J1 : Nat → Value) (i : Int) (pre rest : List Int), a' = Fr [.func (.yield l) #[] #[], .pointer (some ⟨b, 0, none⟩), undef, .int .i64 i, .pointer (some ⟨g, 0, none⟩), .int .i64 (nxt L 0), (J1 6), (J1 7), (J1 8), (J1 9), (J1 10), (J1 11), (J1 12), (J1 13), (J1 14), (J1 15), (J1 16)] ∧ kq = rest.length ∧ L = pre ++ rest ∧ i = rest.head?.getD (-1) ∧ DnT b g c A ws n w' ∧ J pre w') L.length ⟨(fun k_ : Nat => List.getD [.func (.yield l) #[] #[], .pointer (some ⟨b, 0, none⟩), undef, .int .i64 (nxt L 0), .pointer (some ⟨g, 0, none⟩), .int .i64 (nxt L 0), undef, undef, undef, undef, undef, undef, undef, undef, undef, undef, undef] k_ undef), nxt L 0, [], L, congrArg Fr (by kernel_rfl), rfl, rfl, nxt_first (fun x hx => (hR.lim x hx).1), HD, HJ⟩ ?_
  clear HS HB HD HJ hJ0 HD0 hb hz0 hz1 hr hT
  intro kq a' WB hrel
  obtain ⟨J1, i, pre, rest, rfl, hk, hL, hi, HD, HJ⟩ := hrel
  have HDc := HD
  obtain ⟨⟨hb, hz0, hz1, hr⟩, hT⟩ := HDc
  have HS : St WB (owns []) WB [] := St.start WB _
  rcases rest with _ | ⟨x, rest⟩
  · skip
    have hi : i = -1 := hi
    refine wp_seq ?_
    refine wp_seq ?_
    refine wp_region_yield ?_
    refine yq (.int .i64 i) (by kernel_rfl) (by intro c_ h_; cases h_) (by kernel_rfl) ?_
    refine yq (.bool false) (by kernel_rfl) (by intro c_ h_; cases h_) (R_nbool (p := i ≥ (0 : Int)) (by kernel_rfl) (by omega)) ?_
    refine yq (.bool false) (by kernel_rfl) (by intro c_ h_; cases h_) (by kernel_rfl) ?_
    refine yn (by kernel_rfl) ?_
    refine yn (by kernel_rfl) ?_
    refine yn (by kernel_rfl) ?_
    refine yq (.bool false) (by kernel_rfl) (by intro c_ h_; cases h_) (by kernel_rfl) ?_
    refine wpListIn_nil ?_
    refine x_then ?_
    refine wp_cond_false (by kernel_rfl) ?_
    refine wp_exit ?_
    refine x_thenE ?_
    refine x_thenE ?_
    refine x_hit ?_
    refine end_ (.tuple #[]) (by kernel_rfl) ?_
    exact ⟨⟨_, rfl⟩, .inl ⟨pre, by rw [hL, List.append_nil], HJ⟩⟩
  · skip
    have hi : i = x := hi
    subst hi
    have hxL : i ∈ L := by rw [hL]; simp
    have hlx := hR.lim i hxL
    have hY1 := hY pre i WB HJ (by rw [hL]; simp)
    refine wp_seq ?_
    refine wp_seq ?_
    refine wp_region_yield ?_
    refine yq (.int .i64 i) (by kernel_rfl) (by intro c_ h_; cases h_) (by kernel_rfl) ?_
    refine yq (.bool true) (by kernel_rfl) (by intro c_ h_; cases h_) (R_bool (p := i ≥ (0 : Int)) (by kernel_rfl) (by omega)) ?_
    refine yq (.bool true) (by kernel_rfl) (by intro c_ h_; cases h_) (by kernel_rfl) ?_
    refine yq (.func (.yield l) #[] #[]) (by kernel_rfl) (by intro c_ h_; cases h_) (by kernel_rfl) ?_
    refine yq (.int .i64 i) (by kernel_rfl) (by intro c_ h_; cases h_) (by kernel_rfl) ?_
    refine yy #[.int .i64 i] (by kernel_rfl) (by kernel_rfl) (by kernel_rfl) hY1 ?_
    rintro e WC (⟨rfl, HJ3, HK3⟩ | ⟨rfl, HJ3⟩)
    · refine ⟨_, rfl, ?_⟩
      clear HS
      have HD3 := HK3 HD
      clear HD hb hz0 hz1 hr hT
      have HDc := HD3
      obtain ⟨⟨hb, hz0, hz1, hr⟩, hT⟩ := HDc
      have HS : St WC (owns []) WC [] := St.start WC _
      refine yq (.bool true) (by kernel_rfl) (by intro c_ h_; cases h_) (by kernel_rfl) ?_
      refine wpListIn_nil ?_
      refine x_then ?_
      refine wp_cond_true (by kernel_rfl) ?_
      refine wp_skip ?_
      refine x_then ?_
      refine wp_seq ?_
      refine wp_block ?_
      refine wp_skip ?_
      refine x_inb ?_
      refine x_then ?_
      refine wp_region_lit ?_
      refine ql (.pointer (some ⟨g, 0, none⟩)) (by kernel_rfl) (R_load (p := ⟨b, 0, none⟩) (by kernel_rfl) (by kernel_rfl) (by kernel_rfl) (HS.old0 hb)) ?_
      refine ql (.int .i64 i) (by kernel_rfl) (by kernel_rfl) ?_
      refine ql (.int .i64 (i + 1)) (by kernel_rfl) (R_int (by kernel_rfl) (w64 (by omega))) ?_
      refine qc (f := 51) (args := #[.pointer (some ⟨g, 0, none⟩), .int .i64 (i + 1)]) (by kernel_rfl) (R_call #[.pointer (some ⟨g, 0, none⟩), .int .i64 (i + 1)] Tryd.func51 (by kernel_rfl) (by kernel_rfl) (by kernel_rfl)) ?_
      refine (dnext g c A ws n L (i + 1) _ (HS.old0 hz0) (HS.old0 hz1) (hr.old0 HS) hR hn (hT.old0 HS)).mono ?_
      rintro e W2 ⟨rfl, H_⟩
      refine ⟨_, rfl, ?_⟩
      replace HS : St WC (owns []) W2 [] := HS.join (F := []) (G := []) H_
      clear H_
      refine ql (.int .i64 (nxt L (i + 1))) (by kernel_rfl) (by kernel_rfl) ?_
      refine wpList_nil ?_
      refine x_then ?_
      have HB := HS.kept.below owns_nil
      exact ⟨rest.length, by rw [hk]; simp, (fun k_ : Nat => List.getD [.func (.yield l) #[] #[], .pointer (some ⟨b, 0, none⟩), undef, .int .i64 (nxt L (i + 1)), .pointer (some ⟨g, 0, none⟩), .int .i64 (nxt L 0), .int .i64 i, .bool true, .bool true, .func (.yield l) #[] #[], .int .i64 i, .bool true, .bool true, .pointer (some ⟨g, 0, none⟩), .int .i64 i, .int .i64 (i + 1), .int .i64 (nxt L (i + 1))] k_ undef), nxt L (i + 1), pre ++ [i], rest, congrArg Fr (by kernel_rfl), rfl, by rw [hL]; simp, by rw [hL]; exact nxt_after (hL ▸ hR.srt), HD3.below HB, hJ _ _ _ none HJ3 HS.grownBy0 (fun _ h_ => nomatch h_)⟩
    · refine ⟨_, rfl, ?_⟩
      clear HS
      have HS : St WC (owns []) WC [] := St.start WC _
      refine yq (.bool false) (by kernel_rfl) (by intro c_ h_; cases h_) (by kernel_rfl) ?_
      refine wpListIn_nil ?_
      refine x_then ?_
      refine wp_cond_false (by kernel_rfl) ?_
      refine wp_exit ?_
      refine x_thenE ?_
      refine x_thenE ?_
      refine x_hit ?_
      refine end_ (.tuple #[]) (by kernel_rfl) ?_
      exact ⟨⟨_, rfl⟩, .inr ⟨pre ++ [i], ⟨rest, by rw [hL]; simp⟩, HJ3⟩⟩

theorem DnK.of {b g c : Nat} {A : Option Addr} {ws : List Int} {n : Int} {W X Y : World} (h : DnT b g c A ws n W) (hb : Below W.heap.size X Y) : DnK b g c A ws n X Y := fun ⟨⟨p1, p2, p3, p4⟩, p5⟩ =>
  ⟨⟨(hb.cell (World.block_lt_of_cell? W _ h.1.hb)).trans p1, (hb.cell (World.block_lt_of_cell? W _ h.1.h0)).trans p2, (hb.cell (World.block_lt_of_cell? W _ h.1.h1)).trans p3, fun j v hv => by
    obtain ⟨ad, e, hc⟩ := p4 j v hv
    obtain ⟨ad2, e2, hc2⟩ := h.1.hr j v hv
    rw [e] at e2; cases e2
    exact ⟨ad, e, (hb.cell (World.block_lt_of_cell? W _ hc2)).trans hc⟩⟩, fun j hj => (hb.cell (World.block_lt_of_cell? W _ (h.2 j hj))).trans (p5 j hj)⟩
def DnN (b : Nat) (W : World) : Prop := W.cell? ⟨b, 0, none⟩ = some (.pointer none)
theorem DnN.below {b : Nat} {W W' : World} (h : DnN b W) (hb : Below W.heap.size W W') : DnN b W' := (hb.cell (World.block_lt_of_cell? W _ h)).trans h
def DnNK (b : Nat) (W W' : World) : Prop := DnN b W → DnN b W'
theorem DnNK.of {b : Nat} {W X Y : World} (h : DnN b W) (hb : Below W.heap.size X Y) : DnNK b X Y := fun p => (hb.cell (World.block_lt_of_cell? W _ h)).trans p

set_option maxRecDepth 100000 in
set_option maxHeartbeats 1000000 in
theorem apS {Kp : World → World → Prop} {S_ Sp : List Int → Prop} {N : Nat} (gf : Nat) (lb : Array Value) (W : World) (hen : Enters Tryd.prog gf) (hseq : SeqStopsK Fence.wide 0 Tryd.prog gf lb encI Kp S_ Sp N W) (hKt : ∀ {X Y Z : World}, Kp X Y → Kp Y Z → Kp X Z) (hKp : ∀ X Y, Below W.heap.size X Y → Kp X Y) (hN : N ≤ 1000000000) : Calls Tryd.prog 49 #[.slice none 0 0, .func (.func gf) #[] lb] W fun e W' => ∃ A c xs, S_ xs ∧ e = .returned (.slice A xs.length c) ∧ St W (owns []) W' [row A xs.length c (ci .i64 xs) 3 1] := by
  have HS : St W (owns []) W [] := St.start W _
  refine calls_enterM [.slice none 0 0, .func (.func gf) #[] lb, undef, undef, undef, undef, undef, undef, undef, undef, undef, undef, undef] Tryd.func49 rfl (by kernel_rfl) ?_
  refine wp_seq ?_
  refine wp_region_lit ?_
  refine kb HS [.slice none 0 0] 28 (fun g => .pointer (some ⟨g, 0, none⟩)) (by kernel_rfl) (by kernel_rfl) ?_
  intro g1 W2 H_
  replace HS : St W (owns []) W2 [blk g1 [.slice none 0 0] 28] := H_
  clear H_
  refine ql (.slice none 0 0) (by kernel_rfl) (by kernel_rfl) ?_
  refine wpList_nil ?_
  refine x_then ?_
  refine wp_seq ?_
  refine wp_seq ?_
  refine wp_region_lit ?_
  refine ql (.func (.func gf) #[] lb) (by kernel_rfl) (by kernel_rfl) ?_
  refine wpList_nil ?_
  refine x_then ?_
  refine wp_block ?_
  replace HS : St W (owns []) W2 [row none 0 0 (ci .i64 ([])) 3 1, blk g1 [.slice none 0 0] 28] := (HS.nilRow 3 1).cast_ (by kernel_rfl)
  replace HS : St W (owns []) W2 [blk g1 [.slice none 0 0] 28, row none 0 0 (ci .i64 ([])) 3 1] := HS.perm (perm_ [1, 0] (by kernel_rfl) rfl)
  have HSb := HS
  refine rangeF (gf := gf) (lb := lb) (m := 0) (by kernel_rfl) hen (seq_later hseq (HS.kept.below owns_nil)) hKt (fun X l_ o_ o2_ hl_ _ _ _ => hKp _ _ (below_put (Nat.le_trans HSb.le hl_)))
    (fun pre w' => ∃ (A : Option Addr) (c : Nat), St W (owns []) w' [blk g1 [.slice A pre.length c] 28, row A pre.length c (ci .i64 pre) 3 1])
    (fun c pre w' => False)
    (fun s_ A_ B_ r_ h_ hg_ hr_ => by obtain ⟨A, c, HS⟩ := h_; exact ⟨A, c, HS.grown (cel_cons blk_cel (cel_cons row_cel cel_nil)) HSb.le hg_ hr_⟩)
    (fun _ _ _ _ _ h_ _ _ => h_)
    (by exact ⟨none, 0, HS⟩)
    (fun x => [.slice none 0 0, .func (.func gf) #[] lb, .pointer (some ⟨g1, 0, none⟩), undef, .slice none 0 0, .int .i64 x, .func (.func gf) #[] lb, .int .i64 x, undef, undef, undef, undef, undef]) ?_ ?_ ?_ ?_
  · intro l x W3 K_ hK_
    refine wp_region_litR (by kernel_rfl) (fun ⟨_, _, h_⟩ => (h_ : False)) ?_
    refine ql (.int .i64 x) (by kernel_rfl) (by kernel_rfl) ?_
    refine wpList_nil ?_
    refine x_then ?_
    exact kk_ (congrArg Fr (by kernel_rfl)) hK_
  · intro l pre x W3 hI_ hlt
    obtain ⟨A, c, HS⟩ := hI_
    have HO := HS
    replace HS := HO.root
    refine wpIn_block ?_
    refine wp_region_litR (by kernel_rfl) (fun ⟨_, _, h_⟩ => (h_ : False)) ?_
    refine ql (.slice A pre.length c) (by kernel_rfl) (R_load (p := ⟨g1, 0, none⟩) (by kernel_rfl) (by kernel_rfl) (by kernel_rfl) (HS.cell (i := 0) (j := 0) rfl rfl)) ?_
    refine ql (.int .i64 x) (by kernel_rfl) (by kernel_rfl) ?_
    refine kl HS 1 [.int .i64 x] 3 1 (by kernel_rfl) (by kernel_rfl) rfl (by decide) ?_
    intro g4 W5 H_
    replace HS : St W3 (owns [blk g1 [.slice A pre.length c] 28, row A pre.length c (ci .i64 pre) 3 1]) W5 [row (some ⟨g4, 0, none⟩) 1 1 (ci .i64 ([x])) 3 1, blk g1 [.slice A pre.length c] 28, row A pre.length c (ci .i64 pre) 3 1] := H_.cast_ (by kernel_rfl)
    clear H_
    obtain ⟨xs9, xs9_⟩ : ∃ z_ : List Int, z_ = pre ++ ([x]) := ⟨_, rfl⟩
    have xs9l : xs9.length = pre.length + 1 := by rw [xs9_, List.length_append] <;> (try simp only [List.length_cons, List.length_nil]) <;> omega
    refine ka1 HS 2 rfl (Src.of_row HS (i := 0) rfl ci_one) [.int .i64 0] 8 xs9.length (ci .i64 xs9) (by omega) (by rw [xs9_, ci_app]) (by kernel_rfl) (by kernel_rfl) (by kernel_rfl) Tryd.underlying28 (by kernel_rfl) (by kernel_rfl) (by kernel_rfl) (by kernel_rfl) (by decide) (by omega) (by omega) ?_
    intro A6 c7 W8 H_
    replace HS : St W3 (owns [blk g1 [.slice A pre.length c] 28, row A pre.length c (ci .i64 pre) 3 1]) W8 [row (some ⟨g4, 0, none⟩) 1 1 (ci .i64 ([x])) 3 1, blk g1 [.slice A pre.length c] 28, row A6 xs9.length c7 (ci .i64 xs9) 3 1] := H_
    clear H_
    refine ks (v := .slice A6 xs9.length c7) HS 1 rfl (0) [.slice A6 xs9.length c7] (by kernel_rfl) (by kernel_rfl) (by kernel_rfl) (by kernel_rfl) (by kernel_rfl) (one_ (by kernel_rfl)) (Nat.le_of_ble_eq_true rfl) rfl ?_
    intro W10 H_
    replace HS : St W3 (owns [blk g1 [.slice A pre.length c] 28, row A pre.length c (ci .i64 pre) 3 1]) W10 [row (some ⟨g4, 0, none⟩) 1 1 (ci .i64 ([x])) 3 1, blk g1 [.slice A6 xs9.length c7] 28, row A6 xs9.length c7 (ci .i64 xs9) 3 1] := H_
    clear H_
    refine wpList_nil ?_
    refine x_inb ?_
    replace HS := HS.drop1
    subst xs9_
    have HF := HO.unroot HS
    exact og_n (HS.keepsFrom HO (cel_cons blk_cel (cel_cons row_cel cel_nil)) _) (hKp _ _ (HO.belowR HS)) ⟨A6, c7, HF⟩
  · intro D xs W3 hD hS hI_ hdf
    obtain ⟨A, c, HS⟩ := hI_
    replace HS := HS.addD (cel_cons blk_cel (cel_cons row_cel cel_nil)) (Nat.le_trans HSb.le hD) hdf
    refine x_inb ?_
    refine x_then ?_
    refine wp_seq ?_
    refine wp_region_lit ?_
    refine ql (.slice A xs.length c) (by kernel_rfl) (R_load (p := ⟨g1, 0, none⟩) (by kernel_rfl) (by kernel_rfl) (by kernel_rfl) (HS.cell (i := 1) (j := 0) rfl rfl)) ?_
    refine ql (.slice A xs.length c) (by kernel_rfl) (by kernel_rfl) ?_
    refine wpList_nil ?_
    refine x_then ?_
    refine wp_ret ?_
    refine retD_ HS ?_
    clear HS
    intro W11 HS
    refine ⟨.slice A xs.length c, by kernel_rfl, ?_⟩
    replace HS := HS.drop1
    exact ⟨A, c, xs, hS, rfl, HS⟩
  · intro D c pre W3 hD hSp hIx_ hdf
    exact hIx_.elim

set_option maxRecDepth 100000 in
set_option maxHeartbeats 1000000 in
theorem colS {Kp : World → World → Prop} {S_ Sp : List Int → Prop} {N : Nat} (gf : Nat) (lb : Array Value) (W : World) (hen : Enters Tryd.prog gf) (hseq : SeqStopsK Fence.wide 0 Tryd.prog gf lb encI Kp S_ Sp N W) (hKt : ∀ {X Y Z : World}, Kp X Y → Kp Y Z → Kp X Z) (hKp : ∀ X Y, Below W.heap.size X Y → Kp X Y) (hN : N ≤ 1000000000) : Calls Tryd.prog 37 #[.func (.func gf) #[] lb] W fun e W' => ∃ A c xs, S_ xs ∧ e = .returned (.slice A xs.length c) ∧ St W (owns []) W' [row A xs.length c (ci .i64 xs) 3 1] := by
  have HS : St W (owns []) W [] := St.start W _
  refine calls_enter [.func (.func gf) #[] lb, undef, undef, undef, undef] Tryd.func37 rfl (by kernel_rfl) ?_
  refine wp_seq ?_
  refine wp_region_lit ?_
  refine ql (.slice none 0 0) (by kernel_rfl) (by kernel_rfl) ?_
  refine wpList_nil ?_
  refine x_then ?_
  refine wp_seq ?_
  refine wp_region_lit ?_
  refine ql (.func (.func gf) #[] lb) (by kernel_rfl) (by kernel_rfl) ?_
  refine qc (f := 49) (args := #[.slice none 0 0, .func (.func gf) #[] lb]) (by kernel_rfl) (R_call #[.slice none 0 0, .func (.func gf) #[] lb] Tryd.func49 (by kernel_rfl) (by kernel_rfl) (by kernel_rfl)) ?_
  refine (apS gf lb _ hen hseq hKt hKp hN).mono ?_
  rintro e W1 ⟨A8, c8, xs8, hS8, rfl, H_⟩
  refine ⟨_, rfl, ?_⟩
  replace HS : St W (owns []) W1 [row A8 xs8.length c8 (ci .i64 xs8) 3 1] := HS.join (F := []) (G := [row A8 xs8.length c8 (ci .i64 xs8) 3 1]) H_
  clear H_
  refine ql (.slice A8 xs8.length c8) (by kernel_rfl) (by kernel_rfl) ?_
  refine wpList_nil ?_
  refine x_then ?_
  refine wp_ret ?_
  refine ret_ (.slice A8 xs8.length c8) (by kernel_rfl) ?_
  exact ⟨A8, c8, xs8, hS8, rfl, HS⟩


set_option maxRecDepth 100000 in
set_option maxHeartbeats 1000000 in
theorem r3has (A : Option Addr) (c : Nat) (L : List Int) (n : Int) (i : Int) (W : World) (hr : Rd W A (ci .i64 L)) (hl : L.length ≤ 100000) : Calls Tryd.prog 29 #[.agg #[.int .i64 n, .slice A L.length c], .int .i64 i] W fun e W' => e = .returned (.bool (decide (i ∈ L))) ∧ St W (owns []) W' [] := by
  have HS : St W (owns []) W [] := St.start W _
  refine calls_enter [.agg #[.int .i64 n, .slice A L.length c], .int .i64 i, undef, undef, undef, undef, undef, undef, undef, undef, undef, undef, undef, undef, undef, undef, undef, undef, undef, undef] Tryd.func29 rfl (by kernel_rfl) ?_
  refine wp_seq ?_
  refine wp_region_lit ?_
  refine kb HS [.int .i64 n, .slice A L.length c] 30 (fun g => .pointer (some ⟨g, 0, none⟩)) (by kernel_rfl) (by kernel_rfl) ?_
  intro g1 W2 H_
  replace HS : St W (owns []) W2 [blk g1 [.int .i64 n, .slice A L.length c] 30] := H_
  clear H_
  refine ql (.bool false) (by kernel_rfl) (by kernel_rfl) ?_
  refine wpList_nil ?_
  refine x_then ?_
  refine wp_seq ?_
  refine wp_seq ?_
  refine wp_region_lit ?_
  refine ql (.int .i64 0) (by kernel_rfl) (by kernel_rfl) ?_
  refine wpList_nil ?_
  refine x_then ?_
  refine wp_block ?_
  refine wp_loop_ghost (fun kq a' w' => ∃ (J3 : Nat → Value) (k : Int) , a' = Fr [.agg #[.int .i64 n, .slice A L.length c], .int .i64 i, .pointer (some ⟨g1, 0, none⟩), undef, (J3 4), .int .i64 k, (J3 6), (J3 7), (J3 8), (J3 9), (J3 10), (J3 11), (J3 12), (J3 13), (J3 14), (J3 15), (J3 16), (J3 17), (J3 18), (J3 19)] ∧ kq = (L.length - (k).toNat) ∧ (0 ≤ k) ∧ (k ≤ L.length) ∧ (i ∉ L.take (k).toNat) ∧ St W (owns []) w' [blk g1 [.int .i64 n, .slice A L.length c] 30]) (L.length - ((0 : Int)).toNat) ⟨(fun k_ : Nat => List.getD [.agg #[.int .i64 n, .slice A L.length c], .int .i64 i, .pointer (some ⟨g1, 0, none⟩), undef, .bool false, .int .i64 0, undef, undef, undef, undef, undef, undef, undef, undef, undef, undef, undef, undef, undef, undef] k_ undef), (0 : Int), congrArg Fr (by kernel_rfl), rfl, by omega, by omega, (by simp), HS⟩ ?_
  clear HS
  intro kq4 a' W5 hrel
  obtain ⟨J3, k, rfl, hk, k0, k1, hn, HS⟩ := hrel
  refine wp_seq ?_
  refine wp_seq ?_
  refine wp_region_lit ?_
  refine ql (.int .i64 k) (by kernel_rfl) (by kernel_rfl) ?_
  refine ql (.pointer (some ⟨g1, 1, none⟩)) (by kernel_rfl) (by kernel_rfl) ?_
  refine ql (.slice A L.length c) (by kernel_rfl) (R_load (p := ⟨g1, 1, none⟩) (by kernel_rfl) (by kernel_rfl) (by kernel_rfl) (HS.cell (i := 0) (j := 1) rfl rfl)) ?_
  refine ql (.int .i64 (L.length : Int)) (by kernel_rfl) (by kernel_rfl) ?_
  by_cases hc6 : k < (L.length : Int)
  · skip
    refine ql (.bool true) (by kernel_rfl) (R_bool (p := k < (L.length : Int)) (by kernel_rfl) (hc6)) ?_
    refine wpList_nil ?_
    refine x_then ?_
    refine wp_cond_true (by kernel_rfl) ?_
    refine wp_skip ?_
    refine x_then ?_
    refine wp_seq ?_
    refine wp_block ?_
    refine wp_seq ?_
    refine wp_region_lit ?_
    refine ql (.pointer (some ⟨g1, 1, none⟩)) (by kernel_rfl) (by kernel_rfl) ?_
    refine ql (.slice A L.length c) (by kernel_rfl) (R_load (p := ⟨g1, 1, none⟩) (by kernel_rfl) (by kernel_rfl) (by kernel_rfl) (HS.cell (i := 0) (j := 1) rfl rfl)) ?_
    refine ql (.int .i64 k) (by kernel_rfl) (by kernel_rfl) ?_
    obtain ⟨ad7, rfl⟩ := Rd.isSome_ hr (by rw [ci_len]; omega)
    refine ql (.pointer (some (ad7.add k.toNat))) (by kernel_rfl) (R_indexA1 (k := .i64) (p := ad7) (n := L.length) (c := c) (i := k) (by kernel_rfl) (by kernel_rfl) Tryd.underlying28 (by kernel_rfl) (by omega) (by omega)) ?_
    refine ql (.int .i64 (rdI L k)) (by kernel_rfl) (R_load (p := ad7.add k.toNat) (by kernel_rfl) (by kernel_rfl) (by kernel_rfl) (HS.old0 (hr.at_ (ci_rd (i := k) (by omega) (by omega))))) ?_
    refine ql (.int .i64 i) (by kernel_rfl) (by kernel_rfl) ?_
    by_cases hc8 : (rdI L k) = i
    · skip
      refine ql (.bool true) (by kernel_rfl) (R_beq (b := (rdI L k == i)) (by kernel_rfl) (beq_t (hc8))) ?_
      refine wpList_nil ?_
      refine x_then ?_
      refine wp_cond_true (by kernel_rfl) ?_
      refine wp_seq ?_
      refine wp_region_lit ?_
      refine ql (.bool true) (by kernel_rfl) (by kernel_rfl) ?_
      refine wpList_nil ?_
      refine x_then ?_
      refine wp_ret ?_
      refine x_inbR ?_
      refine x_thenR ?_
      refine x_thenR ?_
      refine x_inbR ?_
      refine x_thenR ?_
      refine ret_ (.bool true) (by kernel_rfl) ?_
      replace HS := HS.drop1
      exact ⟨by rw [decide_eq_true (hc8 ▸ mem_rd k0 (by omega))], HS⟩
    · skip
      refine ql (.bool false) (by kernel_rfl) (R_beq (b := (rdI L k == i)) (by kernel_rfl) (beq_f (hc8))) ?_
      refine wpList_nil ?_
      refine x_then ?_
      refine wp_cond_false (by kernel_rfl) ?_
      refine wp_skip ?_
      refine x_inb ?_
      refine x_then ?_
      refine wp_region_lit ?_
      refine ql (.int .i64 k) (by kernel_rfl) (by kernel_rfl) ?_
      refine ql (.int .i64 (k + 1)) (by kernel_rfl) (R_int (by kernel_rfl) (w64 (by omega))) ?_
      refine ql (.int .i64 (k + 1)) (by kernel_rfl) (by kernel_rfl) ?_
      refine wpList_nil ?_
      refine x_then ?_
      exact ⟨L.length - (k + 1).toNat, by omega, (fun k_ : Nat => List.getD [.agg #[.int .i64 n, .slice (some ad7) L.length c], .int .i64 i, .pointer (some ⟨g1, 0, none⟩), undef, (J3 4), .int .i64 (k + 1), .int .i64 k, .pointer (some ⟨g1, 1, none⟩), .slice (some ad7) L.length c, .int .i64 (L.length : Int), .bool true, .int .i64 k, .int .i64 (k + 1), .pointer (some ⟨g1, 1, none⟩), .slice (some ad7) L.length c, .int .i64 k, .pointer (some (ad7.add k.toNat)), .int .i64 (rdI L k), .int .i64 i, .bool false] k_ undef), k + 1, congrArg Fr (by kernel_rfl), rfl, by omega, by omega, no_take hn k0 (by omega) hc8, HS⟩
  · skip
    refine ql (.bool false) (by kernel_rfl) (R_nbool (p := k < (L.length : Int)) (by kernel_rfl) (hc6)) ?_
    refine wpList_nil ?_
    refine x_then ?_
    refine wp_cond_false (by kernel_rfl) ?_
    refine wp_exit ?_
    refine x_thenE ?_
    refine x_thenE ?_
    refine x_hit ?_
    refine x_then ?_
    refine wp_seq ?_
    refine wp_region_lit ?_
    refine ql (.bool false) (by kernel_rfl) (by kernel_rfl) ?_
    refine wpList_nil ?_
    refine x_then ?_
    refine wp_ret ?_
    refine ret_ (.bool false) (by kernel_rfl) ?_
    replace HS := HS.drop1
    rw [show k.toNat = L.length by omega, List.take_length] at hn
    exact ⟨by rw [decide_eq_false hn], HS⟩

set_option maxRecDepth 100000 in
set_option maxHeartbeats 1000000 in
theorem r1same (A B : Option Addr) (c c2 : Nat) (L M : List Int) (W : World) (hr : Rd W A (ci .i64 L)) (hl : L.length ≤ 100000) (hs : Rd W B (ci .i64 M)) (hl2 : M.length ≤ 100000) : Calls Tryd.prog 18 #[.slice A L.length c, .slice B M.length c2] W fun e W' => e = .returned (.bool (decide (L = M))) ∧ St W (owns []) W' [] := by
  have HS : St W (owns []) W [] := St.start W _
  refine calls_enter [.slice A L.length c, .slice B M.length c2, undef, undef, undef, undef, undef, undef, undef, undef, undef, undef, undef, undef, undef, undef, undef, undef, undef, undef, undef, undef, undef, undef, undef, undef] Tryd.func18 rfl (by kernel_rfl) ?_
  refine wp_seq ?_
  refine wp_region_lit ?_
  refine ql (.bool false) (by kernel_rfl) (by kernel_rfl) ?_
  refine wpList_nil ?_
  refine x_then ?_
  refine wp_seq ?_
  refine wp_seq ?_
  refine wp_region_lit ?_
  refine ql (.slice A L.length c) (by kernel_rfl) (by kernel_rfl) ?_
  refine ql (.int .i64 (L.length : Int)) (by kernel_rfl) (by kernel_rfl) ?_
  refine ql (.slice B M.length c2) (by kernel_rfl) (by kernel_rfl) ?_
  refine ql (.int .i64 (M.length : Int)) (by kernel_rfl) (by kernel_rfl) ?_
  by_cases hc1 : (L.length : Int) = (M.length : Int)
  · skip
    refine ql (.bool false) (by kernel_rfl) (R_beq (b := ((L.length : Int) != (M.length : Int))) (by kernel_rfl) (bne_f (hc1))) ?_
    refine wpList_nil ?_
    refine x_then ?_
    refine wp_cond_false (by kernel_rfl) ?_
    refine wp_skip ?_
    refine x_then ?_
    refine wp_seq ?_
    refine wp_seq ?_
    refine wp_region_lit ?_
    refine ql (.int .i64 0) (by kernel_rfl) (by kernel_rfl) ?_
    refine wpList_nil ?_
    refine x_then ?_
    refine wp_block ?_
    refine wp_loop_ghost (fun kq a' w' => ∃ (J2 : Nat → Value) (k : Int) , a' = Fr [.slice A L.length c, .slice B M.length c2, undef, undef, (J2 4), .int .i64 k, .slice A L.length c, .int .i64 (L.length : Int), .slice B M.length c2, .int .i64 (M.length : Int), .bool false, (J2 11), (J2 12), (J2 13), (J2 14), (J2 15), (J2 16), (J2 17), (J2 18), (J2 19), (J2 20), (J2 21), (J2 22), (J2 23), (J2 24), (J2 25)] ∧ kq = (L.length - (k).toNat) ∧ (0 ≤ k) ∧ (k ≤ L.length) ∧ (eqTo L M k) ∧ St W (owns []) w' []) (L.length - ((0 : Int)).toNat) ⟨(fun k_ : Nat => List.getD [.slice A L.length c, .slice B M.length c2, undef, undef, .bool false, .int .i64 0, .slice A L.length c, .int .i64 (L.length : Int), .slice B M.length c2, .int .i64 (M.length : Int), .bool false, undef, undef, undef, undef, undef, undef, undef, undef, undef, undef, undef, undef, undef, undef, undef] k_ undef), (0 : Int), congrArg Fr (by kernel_rfl), rfl, by omega, by omega, eqTo_zero, HS⟩ ?_
    clear HS
    intro kq3 a' W4 hrel
    obtain ⟨J2, k, rfl, hk, k0, k1, he, HS⟩ := hrel
    refine wp_seq ?_
    refine wp_seq ?_
    refine wp_region_lit ?_
    refine ql (.int .i64 k) (by kernel_rfl) (by kernel_rfl) ?_
    refine ql (.slice A L.length c) (by kernel_rfl) (by kernel_rfl) ?_
    refine ql (.int .i64 (L.length : Int)) (by kernel_rfl) (by kernel_rfl) ?_
    by_cases hc5 : k < (L.length : Int)
    · skip
      refine ql (.bool true) (by kernel_rfl) (R_bool (p := k < (L.length : Int)) (by kernel_rfl) (hc5)) ?_
      refine wpList_nil ?_
      refine x_then ?_
      refine wp_cond_true (by kernel_rfl) ?_
      refine wp_skip ?_
      refine x_then ?_
      refine wp_seq ?_
      refine wp_block ?_
      refine wp_seq ?_
      refine rg_still HS 8 (by kernel_rfl) (by kernel_rfl) ?_
      intro W6 H_ HK_
      simp only [List.take_succ_cons, List.take_zero, List.drop_succ_cons, List.drop_zero]
      replace HS : St W (owns []) W6 [] := H_
      clear H_
      clear HK_
      refine qs (.slice A L.length c) (by kernel_rfl) (by kernel_rfl) ?_
      refine qs (.int .i64 k) (by kernel_rfl) (by kernel_rfl) ?_
      obtain ⟨ad7, rfl⟩ := Rd.isSome_ hr (by rw [ci_len]; omega)
      refine qs (.pointer (some (ad7.add k.toNat))) (by kernel_rfl) (R_indexA1 (k := .i64) (p := ad7) (n := L.length) (c := c) (i := k) (by kernel_rfl) (by kernel_rfl) Tryd.underlying28 (by kernel_rfl) (by omega) (by omega)) ?_
      refine qs (.int .i64 (rdI L k)) (by kernel_rfl) (R_load (p := ad7.add k.toNat) (by kernel_rfl) (by kernel_rfl) (by kernel_rfl) (HS.old0 (hr.at_ (ci_rd (i := k) (by omega) (by omega))))) ?_
      refine qs (.slice B M.length c2) (by kernel_rfl) (by kernel_rfl) ?_
      refine qs (.int .i64 k) (by kernel_rfl) (by kernel_rfl) ?_
      obtain ⟨ad8, rfl⟩ := Rd.isSome_ hs (by rw [ci_len]; omega)
      refine qs (.pointer (some (ad8.add k.toNat))) (by kernel_rfl) (R_indexA1 (k := .i64) (p := ad8) (n := M.length) (c := c2) (i := k) (by kernel_rfl) (by kernel_rfl) Tryd.underlying28 (by kernel_rfl) (by omega) (by omega)) ?_
      refine qs (.int .i64 (rdI M k)) (by kernel_rfl) (R_load (p := ad8.add k.toNat) (by kernel_rfl) (by kernel_rfl) (by kernel_rfl) (HS.old0 (hs.at_ (ci_rd (i := k) (by omega) (by omega))))) ?_
      refine wpStill_nil ?_
      by_cases hc9 : (rdI L k) = (rdI M k)
      · skip
        refine ql (.bool false) (by kernel_rfl) (R_beq (b := (rdI L k != rdI M k)) (by kernel_rfl) (bne_f (hc9))) ?_
        refine wpList_nil ?_
        refine x_then ?_
        refine wp_cond_false (by kernel_rfl) ?_
        refine wp_skip ?_
        refine x_inb ?_
        refine x_then ?_
        refine wp_region_lit ?_
        refine ql (.int .i64 k) (by kernel_rfl) (by kernel_rfl) ?_
        refine ql (.int .i64 (k + 1)) (by kernel_rfl) (R_int (by kernel_rfl) (w64 (by omega))) ?_
        refine ql (.int .i64 (k + 1)) (by kernel_rfl) (by kernel_rfl) ?_
        refine wpList_nil ?_
        refine x_then ?_
        exact ⟨L.length - (k + 1).toNat, by omega, (fun k_ : Nat => List.getD [.slice (some ad7) L.length c, .slice (some ad8) M.length c2, undef, undef, (J2 4), .int .i64 (k + 1), .slice (some ad7) L.length c, .int .i64 (L.length : Int), .slice (some ad8) M.length c2, .int .i64 (M.length : Int), .bool false, .int .i64 k, .slice (some ad7) L.length c, .int .i64 (L.length : Int), .bool true, .int .i64 k, .int .i64 (k + 1), .slice (some ad7) L.length c, .int .i64 k, .pointer (some (ad7.add k.toNat)), .int .i64 (rdI L k), .slice (some ad8) M.length c2, .int .i64 k, .pointer (some (ad8.add k.toNat)), .int .i64 (rdI M k), .bool false] k_ undef), k + 1, congrArg Fr (by kernel_rfl), rfl, by omega, by omega, eqTo_step he (by first | assumption | omega), HS⟩
      · skip
        refine ql (.bool true) (by kernel_rfl) (R_beq (b := (rdI L k != rdI M k)) (by kernel_rfl) (bne_t (hc9))) ?_
        refine wpList_nil ?_
        refine x_then ?_
        refine wp_cond_true (by kernel_rfl) ?_
        refine wp_seq ?_
        refine wp_region_lit ?_
        refine ql (.bool false) (by kernel_rfl) (by kernel_rfl) ?_
        refine wpList_nil ?_
        refine x_then ?_
        refine wp_ret ?_
        refine x_inbR ?_
        refine x_thenR ?_
        refine x_thenR ?_
        refine x_inbR ?_
        refine x_thenR ?_
        refine ret_ (.bool false) (by kernel_rfl) ?_
        exact ⟨by rw [decide_eq_false (by intro h_; subst h_; omega)], HS⟩
    · skip
      refine ql (.bool false) (by kernel_rfl) (R_nbool (p := k < (L.length : Int)) (by kernel_rfl) (hc5)) ?_
      refine wpList_nil ?_
      refine x_then ?_
      refine wp_cond_false (by kernel_rfl) ?_
      refine wp_exit ?_
      refine x_thenE ?_
      refine x_thenE ?_
      refine x_hit ?_
      refine x_then ?_
      refine wp_seq ?_
      refine wp_region_lit ?_
      refine ql (.bool true) (by kernel_rfl) (by kernel_rfl) ?_
      refine wpList_nil ?_
      refine x_then ?_
      refine wp_ret ?_
      refine ret_ (.bool true) (by kernel_rfl) ?_
      have hk9 : k = L.length := by omega
      rw [hk9] at he
      have hq := eqTo_all (by omega) he
      exact ⟨by rw [decide_eq_true hq], HS⟩
  · skip
    refine ql (.bool true) (by kernel_rfl) (R_beq (b := ((L.length : Int) != (M.length : Int))) (by kernel_rfl) (bne_t (hc1))) ?_
    refine wpList_nil ?_
    refine x_then ?_
    refine wp_cond_true (by kernel_rfl) ?_
    refine wp_seq ?_
    refine wp_region_lit ?_
    refine ql (.bool false) (by kernel_rfl) (by kernel_rfl) ?_
    refine wpList_nil ?_
    refine x_then ?_
    refine wp_ret ?_
    refine x_thenR ?_
    refine ret_ (.bool false) (by kernel_rfl) ?_
    exact ⟨by rw [decide_eq_false (by intro h_; subst h_; omega)], HS⟩

set_option maxRecDepth 100000 in
set_option maxHeartbeats 1000000 in
theorem r3add (A : Option Addr) (c : Nat) (L : List Int) (n : Int) (i : Int) (W : World) (M_ : Nat → Prop) (HS : St W M_ W [row A L.length c (ci .i64 L) 3 1]) (hl : L.length ≤ 100000) : Calls Tryd.prog 44 #[.agg #[.int .i64 n, .slice A L.length c], .int .i64 i] W fun e W' => ∃ A' c', e = .returned (.tuple #[.agg #[.int .i64 n, .slice A' (addL n L i).length c'], .bool (addB n L i)]) ∧ St W M_ W' [row A' ((addL n L i).length) c' (ci .i64 (addL n L i)) 3 1] := by
  refine calls_enter ((.agg #[.int .i64 n, .slice A L.length c]) :: (.int .i64 i) :: undef :: undef :: undef :: undef :: undef :: undef :: undef :: undef :: undef :: undef :: undef :: undef :: undef :: undef :: undef :: undef :: undef :: undef :: undef :: undef :: undef :: undef :: undef :: undef :: undef :: undef :: undef :: undef :: undef :: undef :: undef :: undef :: undef :: undef :: undef :: undef :: undef :: undef :: undef :: undef :: undef :: undef :: undef :: undef :: undef :: undef :: undef :: undef :: undef :: undef :: undef :: undef :: undef :: undef :: undef :: undef :: undef :: undef :: undef :: undef :: undef :: undef :: []) Tryd.func44 rfl (by kernel_rfl) ?_
  refine wp_seq ?_
  refine wp_region_lit ?_
  refine kb HS [.int .i64 n, .slice A L.length c] 30 (fun g => .pointer (some ⟨g, 0, none⟩)) (by kernel_rfl) (by kernel_rfl) ?_
  intro g1 W2 H_
  replace HS : St W M_ W2 [blk g1 [.int .i64 n, .slice A L.length c] 30, row A L.length c (ci .i64 L) 3 1] := H_
  clear H_
  refine kb HS [.int .i64 0, .slice none 0 0] 30 (fun g => .pointer (some ⟨g, 0, none⟩)) (by kernel_rfl) (by kernel_rfl) ?_
  intro g3 W4 H_
  replace HS : St W M_ W4 [blk g3 [.int .i64 0, .slice none 0 0] 30, blk g1 [.int .i64 n, .slice A L.length c] 30, row A L.length c (ci .i64 L) 3 1] := H_
  clear H_
  refine ql (.bool false) (by kernel_rfl) (by kernel_rfl) ?_
  refine wpList_nil ?_
  refine x_then ?_
  refine wp_seq ?_
  refine wp_seq ?_
  refine wp_region_lit ?_
  refine ql (.int .i64 i) (by kernel_rfl) (by kernel_rfl) ?_
  by_cases hc5 : i < (0 : Int)
  · skip
    refine ql (.bool true) (by kernel_rfl) (R_bool (p := i < (0 : Int)) (by kernel_rfl) (hc5)) ?_
    refine ql (.bool true) (by kernel_rfl) (by kernel_rfl) ?_
    refine qln (by kernel_rfl) ?_
    refine qln (by kernel_rfl) ?_
    refine qln (by kernel_rfl) ?_
    refine qln (by kernel_rfl) ?_
    refine ql (.bool true) (by kernel_rfl) (by kernel_rfl) ?_
    refine ql (.bool true) (by kernel_rfl) (by kernel_rfl) ?_
    refine qln (by kernel_rfl) ?_
    refine qln (by kernel_rfl) ?_
    refine qln (by kernel_rfl) ?_
    refine ql (.bool true) (by kernel_rfl) (by kernel_rfl) ?_
    refine wpList_nil ?_
    refine x_then ?_
    refine wp_cond_true (by kernel_rfl) ?_
    refine wp_seq ?_
    refine wp_region_lit ?_
    refine ql (.agg #[.int .i64 n, .slice A L.length c]) (by kernel_rfl) (R_loadN (p := ⟨g1, 0, none⟩) [.int .i64 n, .slice A L.length c] (by kernel_rfl) (by kernel_rfl) (by kernel_rfl) (by kernel_rfl) (two_at (HS.cell (i := 1) (j := 0) rfl rfl) (HS.cell (i := 1) (j := 1) rfl rfl))) ?_
    refine ks (v := .agg #[.int .i64 n, .slice A L.length c]) HS 0 rfl (0) [.int .i64 n, .slice A L.length c] (by kernel_rfl) (by kernel_rfl) (by kernel_rfl) (by kernel_rfl) (by kernel_rfl) (one_ (by kernel_rfl)) (Nat.le_of_ble_eq_true rfl) rfl ?_
    intro W6 H_
    replace HS : St W M_ W6 [blk g3 [.int .i64 n, .slice A L.length c] 30, blk g1 [.int .i64 n, .slice A L.length c] 30, row A L.length c (ci .i64 L) 3 1] := H_
    clear H_
    refine ql (.bool false) (by kernel_rfl) (by kernel_rfl) ?_
    refine wpList_nil ?_
    refine x_then ?_
    refine wp_ret ?_
    refine x_thenR ?_
    refine ret_ (.tuple #[.agg #[.int .i64 n, .slice A L.length c], .bool false]) (res2 rfl (oneRes_agg (p := ⟨g3, 0, none⟩) [.int .i64 n, .slice A L.length c] (by kernel_rfl) (by kernel_rfl) (by kernel_rfl) (by kernel_rfl) (HS.cellsN (i := 0) rfl)) (oneRes_t (by kernel_rfl))) ?_
    replace HS := HS.drop1
    replace HS := HS.drop1
    have ha := addL_out (n := n) (i := i) (L := L) (by omega)
    exact ⟨A, c, by rw [ha.1, ha.2], by rw [ha.1]; exact HS⟩
  · skip
    refine ql (.bool false) (by kernel_rfl) (R_nbool (p := i < (0 : Int)) (by kernel_rfl) (hc5)) ?_
    refine ql (.bool false) (by kernel_rfl) (by kernel_rfl) ?_
    refine ql (.int .i64 i) (by kernel_rfl) (by kernel_rfl) ?_
    refine ql (.pointer (some ⟨g1, 0, none⟩)) (by kernel_rfl) (by kernel_rfl) ?_
    refine ql (.int .i64 n) (by kernel_rfl) (R_load (p := ⟨g1, 0, none⟩) (by kernel_rfl) (by kernel_rfl) (by kernel_rfl) (HS.cell (i := 1) (j := 0) rfl rfl)) ?_
    by_cases hc7 : i ≥ n
    · skip
      refine ql (.bool true) (by kernel_rfl) (R_bool (p := i ≥ n) (by kernel_rfl) (hc7)) ?_
      refine ql (.bool true) (by kernel_rfl) (by kernel_rfl) ?_
      refine ql (.bool true) (by kernel_rfl) (by kernel_rfl) ?_
      refine qln (by kernel_rfl) ?_
      refine qln (by kernel_rfl) ?_
      refine qln (by kernel_rfl) ?_
      refine ql (.bool true) (by kernel_rfl) (by kernel_rfl) ?_
      refine wpList_nil ?_
      refine x_then ?_
      refine wp_cond_true (by kernel_rfl) ?_
      refine wp_seq ?_
      refine wp_region_lit ?_
      refine ql (.agg #[.int .i64 n, .slice A L.length c]) (by kernel_rfl) (R_loadN (p := ⟨g1, 0, none⟩) [.int .i64 n, .slice A L.length c] (by kernel_rfl) (by kernel_rfl) (by kernel_rfl) (by kernel_rfl) (two_at (HS.cell (i := 1) (j := 0) rfl rfl) (HS.cell (i := 1) (j := 1) rfl rfl))) ?_
      refine ks (v := .agg #[.int .i64 n, .slice A L.length c]) HS 0 rfl (0) [.int .i64 n, .slice A L.length c] (by kernel_rfl) (by kernel_rfl) (by kernel_rfl) (by kernel_rfl) (by kernel_rfl) (one_ (by kernel_rfl)) (Nat.le_of_ble_eq_true rfl) rfl ?_
      intro W8 H_
      replace HS : St W M_ W8 [blk g3 [.int .i64 n, .slice A L.length c] 30, blk g1 [.int .i64 n, .slice A L.length c] 30, row A L.length c (ci .i64 L) 3 1] := H_
      clear H_
      refine ql (.bool false) (by kernel_rfl) (by kernel_rfl) ?_
      refine wpList_nil ?_
      refine x_then ?_
      refine wp_ret ?_
      refine x_thenR ?_
      refine ret_ (.tuple #[.agg #[.int .i64 n, .slice A L.length c], .bool false]) (res2 rfl (oneRes_agg (p := ⟨g3, 0, none⟩) [.int .i64 n, .slice A L.length c] (by kernel_rfl) (by kernel_rfl) (by kernel_rfl) (by kernel_rfl) (HS.cellsN (i := 0) rfl)) (oneRes_t (by kernel_rfl))) ?_
      replace HS := HS.drop1
      replace HS := HS.drop1
      have ha := addL_out (n := n) (i := i) (L := L) (by omega)
      exact ⟨A, c, by rw [ha.1, ha.2], by rw [ha.1]; exact HS⟩
    · skip
      refine ql (.bool false) (by kernel_rfl) (R_nbool (p := i ≥ n) (by kernel_rfl) (hc7)) ?_
      refine ql (.bool false) (by kernel_rfl) (by kernel_rfl) ?_
      refine ql (.bool false) (by kernel_rfl) (by kernel_rfl) ?_
      refine ql (.agg #[.int .i64 n, .slice A L.length c]) (by kernel_rfl) (R_loadN (p := ⟨g1, 0, none⟩) [.int .i64 n, .slice A L.length c] (by kernel_rfl) (by kernel_rfl) (by kernel_rfl) (by kernel_rfl) (two_at (HS.cell (i := 1) (j := 0) rfl rfl) (HS.cell (i := 1) (j := 1) rfl rfl))) ?_
      refine ql (.int .i64 i) (by kernel_rfl) (by kernel_rfl) ?_
      refine qc (f := 29) (args := #[.agg #[.int .i64 n, .slice A L.length c], .int .i64 i]) (by kernel_rfl) (R_call #[.agg #[.int .i64 n, .slice A L.length c], .int .i64 i] Tryd.func29 (by kernel_rfl) (by kernel_rfl) (by kernel_rfl)) ?_
      by_cases hv : i ∈ L
      · skip
        have hdx : decide (i ∈ L) = true := decide_eq_true hv
        refine (r3has A c L n i _ (Rd.row HS (i := 2) rfl) hl).mono ?_
        rintro e W9 ⟨rfl, H_⟩
        rw [hdx]
        refine ⟨_, rfl, ?_⟩
        replace HS : St W M_ W9 [blk g3 [.int .i64 0, .slice none 0 0] 30, blk g1 [.int .i64 n, .slice A L.length c] 30, row A L.length c (ci .i64 L) 3 1] := HS.join (F := []) (G := []) H_
        clear H_
        refine ql (.bool true) (by kernel_rfl) (by kernel_rfl) ?_
        refine wpList_nil ?_
        refine x_then ?_
        refine wp_cond_true (by kernel_rfl) ?_
        refine wp_seq ?_
        refine wp_region_lit ?_
        refine ql (.agg #[.int .i64 n, .slice A L.length c]) (by kernel_rfl) (R_loadN (p := ⟨g1, 0, none⟩) [.int .i64 n, .slice A L.length c] (by kernel_rfl) (by kernel_rfl) (by kernel_rfl) (by kernel_rfl) (two_at (HS.cell (i := 1) (j := 0) rfl rfl) (HS.cell (i := 1) (j := 1) rfl rfl))) ?_
        refine ks (v := .agg #[.int .i64 n, .slice A L.length c]) HS 0 rfl (0) [.int .i64 n, .slice A L.length c] (by kernel_rfl) (by kernel_rfl) (by kernel_rfl) (by kernel_rfl) (by kernel_rfl) (one_ (by kernel_rfl)) (Nat.le_of_ble_eq_true rfl) rfl ?_
        intro W10 H_
        replace HS : St W M_ W10 [blk g3 [.int .i64 n, .slice A L.length c] 30, blk g1 [.int .i64 n, .slice A L.length c] 30, row A L.length c (ci .i64 L) 3 1] := H_
        clear H_
        refine ql (.bool false) (by kernel_rfl) (by kernel_rfl) ?_
        refine wpList_nil ?_
        refine x_then ?_
        refine wp_ret ?_
        refine x_thenR ?_
        refine ret_ (.tuple #[.agg #[.int .i64 n, .slice A L.length c], .bool false]) (res2 rfl (oneRes_agg (p := ⟨g3, 0, none⟩) [.int .i64 n, .slice A L.length c] (by kernel_rfl) (by kernel_rfl) (by kernel_rfl) (by kernel_rfl) (HS.cellsN (i := 0) rfl)) (oneRes_t (by kernel_rfl))) ?_
        replace HS := HS.drop1
        replace HS := HS.drop1
        have ha := addL_out (n := n) (i := i) (L := L) (.inr (.inr hv))
        exact ⟨A, c, by rw [ha.1, ha.2], by rw [ha.1]; exact HS⟩
      · skip
        have hdx : decide (i ∈ L) = false := decide_eq_false hv
        refine (r3has A c L n i _ (Rd.row HS (i := 2) rfl) hl).mono ?_
        rintro e W11 ⟨rfl, H_⟩
        rw [hdx]
        refine ⟨_, rfl, ?_⟩
        replace HS : St W M_ W11 [blk g3 [.int .i64 0, .slice none 0 0] 30, blk g1 [.int .i64 n, .slice A L.length c] 30, row A L.length c (ci .i64 L) 3 1] := HS.join (F := []) (G := []) H_
        clear H_
        refine ql (.bool false) (by kernel_rfl) (by kernel_rfl) ?_
        refine wpList_nil ?_
        refine x_then ?_
        refine wp_cond_false (by kernel_rfl) ?_
        refine wp_skip ?_
        refine x_then ?_
        refine wp_seq ?_
        refine wp_region_lit ?_
        refine kl HS 0 [] 3 1 (by kernel_rfl) (by kernel_rfl) rfl (by decide) ?_
        intro g12 W13 H_
        replace HS : St W M_ W13 [row (some ⟨g12, 0, none⟩) 0 0 (ci .i64 ([])) 3 1, blk g3 [.int .i64 0, .slice none 0 0] 30, blk g1 [.int .i64 n, .slice A L.length c] 30, row A L.length c (ci .i64 L) 3 1] := H_.cast_ (by kernel_rfl)
        clear H_
        refine ql (.slice (some ⟨g12, 0, none⟩) 0 0) (by kernel_rfl) (by kernel_rfl) ?_
        refine wpList_nil ?_
        refine x_then ?_
        refine wp_seq ?_
        refine wp_region_lit ?_
        refine ql (.bool false) (by kernel_rfl) (by kernel_rfl) ?_
        refine wpList_nil ?_
        refine x_then ?_
        refine wp_seq ?_
        refine wp_seq ?_
        refine wp_region_lit ?_
        refine ql (.int .i64 0) (by kernel_rfl) (by kernel_rfl) ?_
        refine wpList_nil ?_
        refine x_then ?_
        refine wp_block ?_
        refine wp_loop_ghost (fun kq a' w' => ∃ (J14 : Nat → Value) (k : Int) (put : Bool) (out : List Int) (A6 : Option Addr) (c6 : Nat) , a' = Fr ((.agg #[.int .i64 n, .slice A L.length c]) :: (.int .i64 i) :: (.pointer (some ⟨g1, 0, none⟩)) :: undef :: (.pointer (some ⟨g3, 0, none⟩)) :: (.bool false) :: (.slice A6 out.length c6) :: (.bool put) :: (.int .i64 k) :: (.int .i64 i) :: (.bool false) :: (.bool false) :: (.int .i64 i) :: (.pointer (some ⟨g1, 0, none⟩)) :: (.int .i64 n) :: (.bool false) :: (.bool false) :: (.bool false) :: (.agg #[.int .i64 n, .slice A L.length c]) :: (.int .i64 i) :: (.bool false) :: (.bool false) :: undef :: (.slice (some ⟨g12, 0, none⟩) 0 0) :: ((J14 24)) :: ((J14 25)) :: ((J14 26)) :: ((J14 27)) :: ((J14 28)) :: ((J14 29)) :: ((J14 30)) :: ((J14 31)) :: ((J14 32)) :: ((J14 33)) :: ((J14 34)) :: ((J14 35)) :: ((J14 36)) :: ((J14 37)) :: ((J14 38)) :: ((J14 39)) :: ((J14 40)) :: ((J14 41)) :: ((J14 42)) :: ((J14 43)) :: ((J14 44)) :: ((J14 45)) :: ((J14 46)) :: ((J14 47)) :: ((J14 48)) :: ((J14 49)) :: ((J14 50)) :: ((J14 51)) :: ((J14 52)) :: ((J14 53)) :: undef :: undef :: undef :: undef :: undef :: undef :: undef :: undef :: undef :: undef :: []) ∧ kq = (L.length - (k).toNat) ∧ (0 ≤ k) ∧ (k ≤ L.length) ∧ (InsP i L out k put) ∧ St W M_ w' [row A6 out.length c6 (ci .i64 out) 3 1, blk g3 [.int .i64 0, .slice none 0 0] 30, blk g1 [.int .i64 n, .slice A L.length c] 30, row A L.length c (ci .i64 L) 3 1]) (L.length - ((0 : Int)).toNat) ⟨(fun k_ : Nat => List.getD ((.agg #[.int .i64 n, .slice A L.length c]) :: (.int .i64 i) :: (.pointer (some ⟨g1, 0, none⟩)) :: undef :: (.pointer (some ⟨g3, 0, none⟩)) :: (.bool false) :: (.slice (some ⟨g12, 0, none⟩) 0 0) :: (.bool false) :: (.int .i64 0) :: (.int .i64 i) :: (.bool false) :: (.bool false) :: (.int .i64 i) :: (.pointer (some ⟨g1, 0, none⟩)) :: (.int .i64 n) :: (.bool false) :: (.bool false) :: (.bool false) :: (.agg #[.int .i64 n, .slice A L.length c]) :: (.int .i64 i) :: (.bool false) :: (.bool false) :: undef :: (.slice (some ⟨g12, 0, none⟩) 0 0) :: undef :: undef :: undef :: undef :: undef :: undef :: undef :: undef :: undef :: undef :: undef :: undef :: undef :: undef :: undef :: undef :: undef :: undef :: undef :: undef :: undef :: undef :: undef :: undef :: undef :: undef :: undef :: undef :: undef :: undef :: undef :: undef :: undef :: undef :: undef :: undef :: undef :: undef :: undef :: undef :: []) k_ undef), (0 : Int), false, [], some ⟨g12, 0, none⟩, 0, congrArg Fr (by kernel_rfl), rfl, by omega, by omega, insP_start i L, HS⟩ ?_
        clear HS
        intro kq15 a' W16 hrel
        obtain ⟨J14, k, put, out, A6, c6, rfl, hk, k0, k1, hP, HS⟩ := hrel
        have hol : (out.length : Int) ≤ k + 1 := by have h_ := hP.2; split at h_ <;> omega
        refine wp_seq ?_
        refine wp_seq ?_
        refine wp_region_lit ?_
        refine ql (.int .i64 k) (by kernel_rfl) (by kernel_rfl) ?_
        refine ql (.pointer (some ⟨g1, 1, none⟩)) (by kernel_rfl) (by kernel_rfl) ?_
        refine ql (.slice A L.length c) (by kernel_rfl) (R_load (p := ⟨g1, 1, none⟩) (by kernel_rfl) (by kernel_rfl) (by kernel_rfl) (HS.cell (i := 2) (j := 1) rfl rfl)) ?_
        refine ql (.int .i64 (L.length : Int)) (by kernel_rfl) (by kernel_rfl) ?_
        by_cases hc17 : k < (L.length : Int)
        · skip
          refine ql (.bool true) (by kernel_rfl) (R_bool (p := k < (L.length : Int)) (by kernel_rfl) (hc17)) ?_
          refine wpList_nil ?_
          refine x_then ?_
          refine wp_cond_true (by kernel_rfl) ?_
          refine wp_skip ?_
          refine x_then ?_
          refine wp_seq ?_
          refine wp_block ?_
          refine wp_seq ?_
          refine wp_seq ?_
          refine wp_region_lit ?_
          refine ql (.bool put) (by kernel_rfl) (by kernel_rfl) ?_
          by_cases hb18 : put = true
          · skip
            subst hb18
            refine ql (.bool false) (by kernel_rfl) (by kernel_rfl) ?_
            refine ql (.bool false) (by kernel_rfl) (by kernel_rfl) ?_
            refine qln (by kernel_rfl) ?_
            refine qln (by kernel_rfl) ?_
            refine qln (by kernel_rfl) ?_
            refine qln (by kernel_rfl) ?_
            refine qln (by kernel_rfl) ?_
            refine qln (by kernel_rfl) ?_
            refine qln (by kernel_rfl) ?_
            refine ql (.bool false) (by kernel_rfl) (by kernel_rfl) ?_
            refine wpList_nil ?_
            refine x_then ?_
            refine wp_cond_false (by kernel_rfl) ?_
            refine wp_skip ?_
            refine x_then ?_
            refine wp_region_lit ?_
            refine ql (.slice A6 out.length c6) (by kernel_rfl) (by kernel_rfl) ?_
            refine ql (.pointer (some ⟨g1, 1, none⟩)) (by kernel_rfl) (by kernel_rfl) ?_
            refine ql (.slice A L.length c) (by kernel_rfl) (R_load (p := ⟨g1, 1, none⟩) (by kernel_rfl) (by kernel_rfl) (by kernel_rfl) (HS.cell (i := 2) (j := 1) rfl rfl)) ?_
            refine ql (.int .i64 k) (by kernel_rfl) (by kernel_rfl) ?_
            obtain ⟨g19, rfl⟩ := St.rsome HS (i := 3) rfl (by omega)
            refine ql (.pointer (some ⟨g19, k.toNat, none⟩)) (by kernel_rfl) (R_index1 (k := .i64) (g := g19) (n := L.length) (c := c) (i := k) (by kernel_rfl) (by kernel_rfl) Tryd.underlying28 (by kernel_rfl) (by omega) (by omega)) ?_
            refine ql (.int .i64 (rdI L k)) (by kernel_rfl) (R_load (p := ⟨g19, k.toNat, none⟩) (by kernel_rfl) (by kernel_rfl) (by kernel_rfl) (HS.rcell (i := 3) rfl (ci_rd (i := k) (by omega) (by omega)))) ?_
            refine kl HS 1 [.int .i64 (rdI L k)] 3 1 (by kernel_rfl) (by kernel_rfl) rfl (by decide) ?_
            intro g20 W21 H_
            replace HS : St W M_ W21 [row (some ⟨g20, 0, none⟩) 1 1 (ci .i64 ([rdI L k])) 3 1, row A6 out.length c6 (ci .i64 out) 3 1, blk g3 [.int .i64 0, .slice none 0 0] 30, blk g1 [.int .i64 n, .slice (some ⟨g19, 0, none⟩) L.length c] 30, row (some ⟨g19, 0, none⟩) L.length c (ci .i64 L) 3 1] := H_.cast_ (by kernel_rfl)
            clear H_
            obtain ⟨xs25, xs25_⟩ : ∃ z_ : List Int, z_ = out ++ ([rdI L k]) := ⟨_, rfl⟩
            have xs25l : xs25.length = out.length + 1 := by rw [xs25_, List.length_append] <;> (try simp only [List.length_cons, List.length_nil]) <;> omega
            refine ka1 HS 1 rfl (Src.of_row HS (i := 0) rfl ci_one) [.int .i64 0] 8 xs25.length (ci .i64 xs25) (by omega) (by rw [xs25_, ci_app]) (by kernel_rfl) (by kernel_rfl) (by kernel_rfl) Tryd.underlying28 (by kernel_rfl) (by kernel_rfl) (by kernel_rfl) (by kernel_rfl) (by decide) (by omega) (by omega) ?_
            intro A22 c23 W24 H_
            replace HS : St W M_ W24 [row (some ⟨g20, 0, none⟩) 1 1 (ci .i64 ([rdI L k])) 3 1, row A22 xs25.length c23 (ci .i64 xs25) 3 1, blk g3 [.int .i64 0, .slice none 0 0] 30, blk g1 [.int .i64 n, .slice (some ⟨g19, 0, none⟩) L.length c] 30, row (some ⟨g19, 0, none⟩) L.length c (ci .i64 L) 3 1] := H_
            clear H_
            refine ql (.slice A22 xs25.length c23) (by kernel_rfl) (by kernel_rfl) ?_
            refine wpList_nil ?_
            refine x_inb ?_
            refine x_then ?_
            refine wp_region_lit ?_
            refine ql (.int .i64 k) (by kernel_rfl) (by kernel_rfl) ?_
            refine ql (.int .i64 (k + 1)) (by kernel_rfl) (R_int (by kernel_rfl) (w64 (by omega))) ?_
            refine ql (.int .i64 (k + 1)) (by kernel_rfl) (by kernel_rfl) ?_
            refine wpList_nil ?_
            replace HS := HS.drop1
            refine x_then ?_
            exact ⟨L.length - (k + 1).toNat, by omega, (fun k_ : Nat => List.getD ((.agg #[.int .i64 n, .slice (some ⟨g19, 0, none⟩) L.length c]) :: (.int .i64 i) :: (.pointer (some ⟨g1, 0, none⟩)) :: undef :: (.pointer (some ⟨g3, 0, none⟩)) :: (.bool false) :: (.slice A22 xs25.length c23) :: (.bool true) :: (.int .i64 (k + 1)) :: (.int .i64 i) :: (.bool false) :: (.bool false) :: (.int .i64 i) :: (.pointer (some ⟨g1, 0, none⟩)) :: (.int .i64 n) :: (.bool false) :: (.bool false) :: (.bool false) :: (.agg #[.int .i64 n, .slice (some ⟨g19, 0, none⟩) L.length c]) :: (.int .i64 i) :: (.bool false) :: (.bool false) :: undef :: (.slice (some ⟨g12, 0, none⟩) 0 0) :: (.int .i64 k) :: (.pointer (some ⟨g1, 1, none⟩)) :: (.slice (some ⟨g19, 0, none⟩) L.length c) :: (.int .i64 (L.length : Int)) :: (.bool true) :: (.int .i64 k) :: (.int .i64 (k + 1)) :: (.bool true) :: (.bool false) :: (.bool false) :: undef :: undef :: undef :: undef :: undef :: undef :: undef :: (.bool false) :: ((J14 42)) :: ((J14 43)) :: ((J14 44)) :: ((J14 45)) :: (.slice A6 out.length c6) :: (.pointer (some ⟨g1, 1, none⟩)) :: (.slice (some ⟨g19, 0, none⟩) L.length c) :: (.int .i64 k) :: (.pointer (some ⟨g19, k.toNat, none⟩)) :: (.int .i64 (rdI L k)) :: (.slice (some ⟨g20, 0, none⟩) 1 1) :: (.slice A22 xs25.length c23) :: undef :: undef :: undef :: undef :: undef :: undef :: undef :: undef :: undef :: undef :: []) k_ undef), k + 1, true, xs25, A22, c23, congrArg Fr (by kernel_rfl), rfl, by omega, by omega, (by rw [xs25_]; exact insP_put hP k0 (by omega)), HS⟩
          · skip
            replace hb18 := Bool.eq_false_iff.2 hb18
            subst hb18
            refine ql (.bool true) (by kernel_rfl) (by kernel_rfl) ?_
            refine ql (.bool true) (by kernel_rfl) (by kernel_rfl) ?_
            refine ql (.pointer (some ⟨g1, 1, none⟩)) (by kernel_rfl) (by kernel_rfl) ?_
            refine ql (.slice A L.length c) (by kernel_rfl) (R_load (p := ⟨g1, 1, none⟩) (by kernel_rfl) (by kernel_rfl) (by kernel_rfl) (HS.cell (i := 2) (j := 1) rfl rfl)) ?_
            refine ql (.int .i64 k) (by kernel_rfl) (by kernel_rfl) ?_
            obtain ⟨g26, rfl⟩ := St.rsome HS (i := 3) rfl (by omega)
            refine ql (.pointer (some ⟨g26, k.toNat, none⟩)) (by kernel_rfl) (R_index1 (k := .i64) (g := g26) (n := L.length) (c := c) (i := k) (by kernel_rfl) (by kernel_rfl) Tryd.underlying28 (by kernel_rfl) (by omega) (by omega)) ?_
            refine ql (.int .i64 (rdI L k)) (by kernel_rfl) (R_load (p := ⟨g26, k.toNat, none⟩) (by kernel_rfl) (by kernel_rfl) (by kernel_rfl) (HS.rcell (i := 3) rfl (ci_rd (i := k) (by omega) (by omega)))) ?_
            refine ql (.int .i64 i) (by kernel_rfl) (by kernel_rfl) ?_
            by_cases hc27 : (rdI L k) > i
            · skip
              refine ql (.bool true) (by kernel_rfl) (R_bool (p := (rdI L k) > i) (by kernel_rfl) (hc27)) ?_
              refine ql (.bool true) (by kernel_rfl) (by kernel_rfl) ?_
              refine wpList_nil ?_
              refine x_then ?_
              refine wp_cond_true (by kernel_rfl) ?_
              refine wp_seq ?_
              refine wp_region_lit ?_
              refine ql (.slice A6 out.length c6) (by kernel_rfl) (by kernel_rfl) ?_
              refine ql (.int .i64 i) (by kernel_rfl) (by kernel_rfl) ?_
              refine kl HS 1 [.int .i64 i] 3 1 (by kernel_rfl) (by kernel_rfl) rfl (by decide) ?_
              intro g28 W29 H_
              replace HS : St W M_ W29 [row (some ⟨g28, 0, none⟩) 1 1 (ci .i64 ([i])) 3 1, row A6 out.length c6 (ci .i64 out) 3 1, blk g3 [.int .i64 0, .slice none 0 0] 30, blk g1 [.int .i64 n, .slice (some ⟨g26, 0, none⟩) L.length c] 30, row (some ⟨g26, 0, none⟩) L.length c (ci .i64 L) 3 1] := H_.cast_ (by kernel_rfl)
              clear H_
              obtain ⟨xs33, xs33_⟩ : ∃ z_ : List Int, z_ = out ++ ([i]) := ⟨_, rfl⟩
              have xs33l : xs33.length = out.length + 1 := by rw [xs33_, List.length_append] <;> (try simp only [List.length_cons, List.length_nil]) <;> omega
              refine ka1 HS 1 rfl (Src.of_row HS (i := 0) rfl ci_one) [.int .i64 0] 8 xs33.length (ci .i64 xs33) (by omega) (by rw [xs33_, ci_app]) (by kernel_rfl) (by kernel_rfl) (by kernel_rfl) Tryd.underlying28 (by kernel_rfl) (by kernel_rfl) (by kernel_rfl) (by kernel_rfl) (by decide) (by omega) (by omega) ?_
              intro A30 c31 W32 H_
              replace HS : St W M_ W32 [row (some ⟨g28, 0, none⟩) 1 1 (ci .i64 ([i])) 3 1, row A30 xs33.length c31 (ci .i64 xs33) 3 1, blk g3 [.int .i64 0, .slice none 0 0] 30, blk g1 [.int .i64 n, .slice (some ⟨g26, 0, none⟩) L.length c] 30, row (some ⟨g26, 0, none⟩) L.length c (ci .i64 L) 3 1] := H_
              clear H_
              refine ql (.slice A30 xs33.length c31) (by kernel_rfl) (by kernel_rfl) ?_
              refine wpList_nil ?_
              refine x_then ?_
              refine wp_region_lit ?_
              refine ql (.bool true) (by kernel_rfl) (by kernel_rfl) ?_
              refine wpList_nil ?_
              refine x_then ?_
              refine wp_region_lit ?_
              refine ql (.slice A30 xs33.length c31) (by kernel_rfl) (by kernel_rfl) ?_
              refine ql (.pointer (some ⟨g1, 1, none⟩)) (by kernel_rfl) (by kernel_rfl) ?_
              refine ql (.slice (some ⟨g26, 0, none⟩) L.length c) (by kernel_rfl) (R_load (p := ⟨g1, 1, none⟩) (by kernel_rfl) (by kernel_rfl) (by kernel_rfl) (HS.cell (i := 3) (j := 1) rfl rfl)) ?_
              refine ql (.int .i64 k) (by kernel_rfl) (by kernel_rfl) ?_
              refine ql (.pointer (some ⟨g26, k.toNat, none⟩)) (by kernel_rfl) (R_index1 (k := .i64) (g := g26) (n := L.length) (c := c) (i := k) (by kernel_rfl) (by kernel_rfl) Tryd.underlying28 (by kernel_rfl) (by omega) (by omega)) ?_
              refine ql (.int .i64 (rdI L k)) (by kernel_rfl) (R_load (p := ⟨g26, k.toNat, none⟩) (by kernel_rfl) (by kernel_rfl) (by kernel_rfl) (HS.rcell (i := 4) rfl (ci_rd (i := k) (by omega) (by omega)))) ?_
              refine kl HS 1 [.int .i64 (rdI L k)] 3 1 (by kernel_rfl) (by kernel_rfl) rfl (by decide) ?_
              intro g34 W35 H_
              replace HS : St W M_ W35 [row (some ⟨g34, 0, none⟩) 1 1 (ci .i64 ([rdI L k])) 3 1, row (some ⟨g28, 0, none⟩) 1 1 (ci .i64 ([i])) 3 1, row A30 xs33.length c31 (ci .i64 xs33) 3 1, blk g3 [.int .i64 0, .slice none 0 0] 30, blk g1 [.int .i64 n, .slice (some ⟨g26, 0, none⟩) L.length c] 30, row (some ⟨g26, 0, none⟩) L.length c (ci .i64 L) 3 1] := H_.cast_ (by kernel_rfl)
              clear H_
              obtain ⟨xs39, xs39_⟩ : ∃ z_ : List Int, z_ = xs33 ++ ([rdI L k]) := ⟨_, rfl⟩
              have xs39l : xs39.length = xs33.length + 1 := by rw [xs39_, List.length_append] <;> (try simp only [List.length_cons, List.length_nil]) <;> omega
              refine ka1 HS 2 rfl (Src.of_row HS (i := 0) rfl ci_one) [.int .i64 0] 8 xs39.length (ci .i64 xs39) (by omega) (by rw [xs39_, ci_app]) (by kernel_rfl) (by kernel_rfl) (by kernel_rfl) Tryd.underlying28 (by kernel_rfl) (by kernel_rfl) (by kernel_rfl) (by kernel_rfl) (by decide) (by omega) (by omega) ?_
              intro A36 c37 W38 H_
              replace HS : St W M_ W38 [row (some ⟨g34, 0, none⟩) 1 1 (ci .i64 ([rdI L k])) 3 1, row (some ⟨g28, 0, none⟩) 1 1 (ci .i64 ([i])) 3 1, row A36 xs39.length c37 (ci .i64 xs39) 3 1, blk g3 [.int .i64 0, .slice none 0 0] 30, blk g1 [.int .i64 n, .slice (some ⟨g26, 0, none⟩) L.length c] 30, row (some ⟨g26, 0, none⟩) L.length c (ci .i64 L) 3 1] := H_
              clear H_
              refine ql (.slice A36 xs39.length c37) (by kernel_rfl) (by kernel_rfl) ?_
              refine wpList_nil ?_
              refine x_inb ?_
              refine x_then ?_
              refine wp_region_lit ?_
              refine ql (.int .i64 k) (by kernel_rfl) (by kernel_rfl) ?_
              refine ql (.int .i64 (k + 1)) (by kernel_rfl) (R_int (by kernel_rfl) (w64 (by omega))) ?_
              refine ql (.int .i64 (k + 1)) (by kernel_rfl) (by kernel_rfl) ?_
              refine wpList_nil ?_
              replace HS := HS.drop1
              replace HS := HS.drop1
              refine x_then ?_
              exact ⟨L.length - (k + 1).toNat, by omega, (fun k_ : Nat => List.getD ((.agg #[.int .i64 n, .slice (some ⟨g26, 0, none⟩) L.length c]) :: (.int .i64 i) :: (.pointer (some ⟨g1, 0, none⟩)) :: undef :: (.pointer (some ⟨g3, 0, none⟩)) :: (.bool false) :: (.slice A36 xs39.length c37) :: (.bool true) :: (.int .i64 (k + 1)) :: (.int .i64 i) :: (.bool false) :: (.bool false) :: (.int .i64 i) :: (.pointer (some ⟨g1, 0, none⟩)) :: (.int .i64 n) :: (.bool false) :: (.bool false) :: (.bool false) :: (.agg #[.int .i64 n, .slice (some ⟨g26, 0, none⟩) L.length c]) :: (.int .i64 i) :: (.bool false) :: (.bool false) :: undef :: (.slice (some ⟨g12, 0, none⟩) 0 0) :: (.int .i64 k) :: (.pointer (some ⟨g1, 1, none⟩)) :: (.slice (some ⟨g26, 0, none⟩) L.length c) :: (.int .i64 (L.length : Int)) :: (.bool true) :: (.int .i64 k) :: (.int .i64 (k + 1)) :: (.bool false) :: (.bool true) :: (.bool true) :: (.pointer (some ⟨g1, 1, none⟩)) :: (.slice (some ⟨g26, 0, none⟩) L.length c) :: (.int .i64 k) :: (.pointer (some ⟨g26, k.toNat, none⟩)) :: (.int .i64 (rdI L k)) :: (.int .i64 i) :: (.bool true) :: (.bool true) :: (.slice A6 out.length c6) :: (.int .i64 i) :: (.slice (some ⟨g28, 0, none⟩) 1 1) :: (.slice A30 xs33.length c31) :: (.slice A30 xs33.length c31) :: (.pointer (some ⟨g1, 1, none⟩)) :: (.slice (some ⟨g26, 0, none⟩) L.length c) :: (.int .i64 k) :: (.pointer (some ⟨g26, k.toNat, none⟩)) :: (.int .i64 (rdI L k)) :: (.slice (some ⟨g34, 0, none⟩) 1 1) :: (.slice A36 xs39.length c37) :: undef :: undef :: undef :: undef :: undef :: undef :: undef :: undef :: undef :: undef :: []) k_ undef), k + 1, true, xs39, A36, c37, congrArg Fr (by kernel_rfl), rfl, by omega, by omega, (by rw [xs39_, xs33_]; exact insP_gt hP k0 (by omega) hc27), HS⟩
            · skip
              refine ql (.bool false) (by kernel_rfl) (R_nbool (p := (rdI L k) > i) (by kernel_rfl) (hc27)) ?_
              refine ql (.bool false) (by kernel_rfl) (by kernel_rfl) ?_
              refine wpList_nil ?_
              refine x_then ?_
              refine wp_cond_false (by kernel_rfl) ?_
              refine wp_skip ?_
              refine x_then ?_
              refine wp_region_lit ?_
              refine ql (.slice A6 out.length c6) (by kernel_rfl) (by kernel_rfl) ?_
              refine ql (.pointer (some ⟨g1, 1, none⟩)) (by kernel_rfl) (by kernel_rfl) ?_
              refine ql (.slice (some ⟨g26, 0, none⟩) L.length c) (by kernel_rfl) (R_load (p := ⟨g1, 1, none⟩) (by kernel_rfl) (by kernel_rfl) (by kernel_rfl) (HS.cell (i := 2) (j := 1) rfl rfl)) ?_
              refine ql (.int .i64 k) (by kernel_rfl) (by kernel_rfl) ?_
              refine ql (.pointer (some ⟨g26, k.toNat, none⟩)) (by kernel_rfl) (R_index1 (k := .i64) (g := g26) (n := L.length) (c := c) (i := k) (by kernel_rfl) (by kernel_rfl) Tryd.underlying28 (by kernel_rfl) (by omega) (by omega)) ?_
              refine ql (.int .i64 (rdI L k)) (by kernel_rfl) (R_load (p := ⟨g26, k.toNat, none⟩) (by kernel_rfl) (by kernel_rfl) (by kernel_rfl) (HS.rcell (i := 3) rfl (ci_rd (i := k) (by omega) (by omega)))) ?_
              refine kl HS 1 [.int .i64 (rdI L k)] 3 1 (by kernel_rfl) (by kernel_rfl) rfl (by decide) ?_
              intro g40 W41 H_
              replace HS : St W M_ W41 [row (some ⟨g40, 0, none⟩) 1 1 (ci .i64 ([rdI L k])) 3 1, row A6 out.length c6 (ci .i64 out) 3 1, blk g3 [.int .i64 0, .slice none 0 0] 30, blk g1 [.int .i64 n, .slice (some ⟨g26, 0, none⟩) L.length c] 30, row (some ⟨g26, 0, none⟩) L.length c (ci .i64 L) 3 1] := H_.cast_ (by kernel_rfl)
              clear H_
              obtain ⟨xs45, xs45_⟩ : ∃ z_ : List Int, z_ = out ++ ([rdI L k]) := ⟨_, rfl⟩
              have xs45l : xs45.length = out.length + 1 := by rw [xs45_, List.length_append] <;> (try simp only [List.length_cons, List.length_nil]) <;> omega
              refine ka1 HS 1 rfl (Src.of_row HS (i := 0) rfl ci_one) [.int .i64 0] 8 xs45.length (ci .i64 xs45) (by omega) (by rw [xs45_, ci_app]) (by kernel_rfl) (by kernel_rfl) (by kernel_rfl) Tryd.underlying28 (by kernel_rfl) (by kernel_rfl) (by kernel_rfl) (by kernel_rfl) (by decide) (by omega) (by omega) ?_
              intro A42 c43 W44 H_
              replace HS : St W M_ W44 [row (some ⟨g40, 0, none⟩) 1 1 (ci .i64 ([rdI L k])) 3 1, row A42 xs45.length c43 (ci .i64 xs45) 3 1, blk g3 [.int .i64 0, .slice none 0 0] 30, blk g1 [.int .i64 n, .slice (some ⟨g26, 0, none⟩) L.length c] 30, row (some ⟨g26, 0, none⟩) L.length c (ci .i64 L) 3 1] := H_
              clear H_
              refine ql (.slice A42 xs45.length c43) (by kernel_rfl) (by kernel_rfl) ?_
              refine wpList_nil ?_
              refine x_inb ?_
              refine x_then ?_
              refine wp_region_lit ?_
              refine ql (.int .i64 k) (by kernel_rfl) (by kernel_rfl) ?_
              refine ql (.int .i64 (k + 1)) (by kernel_rfl) (R_int (by kernel_rfl) (w64 (by omega))) ?_
              refine ql (.int .i64 (k + 1)) (by kernel_rfl) (by kernel_rfl) ?_
              refine wpList_nil ?_
              replace HS := HS.drop1
              refine x_then ?_
              exact ⟨L.length - (k + 1).toNat, by omega, (fun k_ : Nat => List.getD ((.agg #[.int .i64 n, .slice (some ⟨g26, 0, none⟩) L.length c]) :: (.int .i64 i) :: (.pointer (some ⟨g1, 0, none⟩)) :: undef :: (.pointer (some ⟨g3, 0, none⟩)) :: (.bool false) :: (.slice A42 xs45.length c43) :: (.bool false) :: (.int .i64 (k + 1)) :: (.int .i64 i) :: (.bool false) :: (.bool false) :: (.int .i64 i) :: (.pointer (some ⟨g1, 0, none⟩)) :: (.int .i64 n) :: (.bool false) :: (.bool false) :: (.bool false) :: (.agg #[.int .i64 n, .slice (some ⟨g26, 0, none⟩) L.length c]) :: (.int .i64 i) :: (.bool false) :: (.bool false) :: undef :: (.slice (some ⟨g12, 0, none⟩) 0 0) :: (.int .i64 k) :: (.pointer (some ⟨g1, 1, none⟩)) :: (.slice (some ⟨g26, 0, none⟩) L.length c) :: (.int .i64 (L.length : Int)) :: (.bool true) :: (.int .i64 k) :: (.int .i64 (k + 1)) :: (.bool false) :: (.bool true) :: (.bool true) :: (.pointer (some ⟨g1, 1, none⟩)) :: (.slice (some ⟨g26, 0, none⟩) L.length c) :: (.int .i64 k) :: (.pointer (some ⟨g26, k.toNat, none⟩)) :: (.int .i64 (rdI L k)) :: (.int .i64 i) :: (.bool false) :: (.bool false) :: ((J14 42)) :: ((J14 43)) :: ((J14 44)) :: ((J14 45)) :: (.slice A6 out.length c6) :: (.pointer (some ⟨g1, 1, none⟩)) :: (.slice (some ⟨g26, 0, none⟩) L.length c) :: (.int .i64 k) :: (.pointer (some ⟨g26, k.toNat, none⟩)) :: (.int .i64 (rdI L k)) :: (.slice (some ⟨g40, 0, none⟩) 1 1) :: (.slice A42 xs45.length c43) :: undef :: undef :: undef :: undef :: undef :: undef :: undef :: undef :: undef :: undef :: []) k_ undef), k + 1, false, xs45, A42, c43, congrArg Fr (by kernel_rfl), rfl, by omega, by omega, (by rw [xs45_]; exact insP_le hP k0 (by omega) hc27), HS⟩
        · skip
          refine ql (.bool false) (by kernel_rfl) (R_nbool (p := k < (L.length : Int)) (by kernel_rfl) (hc17)) ?_
          refine wpList_nil ?_
          refine x_then ?_
          refine wp_cond_false (by kernel_rfl) ?_
          refine wp_exit ?_
          refine x_thenE ?_
          refine x_thenE ?_
          refine x_hit ?_
          refine x_then ?_
          refine wp_seq ?_
          refine wp_seq ?_
          refine wp_region_lit ?_
          refine ql (.bool put) (by kernel_rfl) (by kernel_rfl) ?_
          by_cases hb46 : put = true
          · skip
            subst hb46
            refine ql (.bool false) (by kernel_rfl) (by kernel_rfl) ?_
            refine wpList_nil ?_
            refine x_then ?_
            refine wp_cond_false (by kernel_rfl) ?_
            refine wp_skip ?_
            refine x_then ?_
            refine wp_seq ?_
            refine wp_region_lit ?_
            refine ql (.pointer (some ⟨g1, 0, none⟩)) (by kernel_rfl) (by kernel_rfl) ?_
            refine ql (.int .i64 n) (by kernel_rfl) (R_load (p := ⟨g1, 0, none⟩) (by kernel_rfl) (by kernel_rfl) (by kernel_rfl) (HS.cell (i := 2) (j := 0) rfl rfl)) ?_
            refine ql (.slice A6 out.length c6) (by kernel_rfl) (by kernel_rfl) ?_
            refine ql (.agg #[.int .i64 n, .slice A6 out.length c6]) (by kernel_rfl) (by kernel_rfl) ?_
            refine ks (v := .agg #[.int .i64 n, .slice A6 out.length c6]) HS 1 rfl (0) [.int .i64 n, .slice A6 out.length c6] (by kernel_rfl) (by kernel_rfl) (by kernel_rfl) (by kernel_rfl) (by kernel_rfl) (one_ (by kernel_rfl)) (Nat.le_of_ble_eq_true rfl) rfl ?_
            intro W47 H_
            replace HS : St W M_ W47 [row A6 out.length c6 (ci .i64 out) 3 1, blk g3 [.int .i64 n, .slice A6 out.length c6] 30, blk g1 [.int .i64 n, .slice A L.length c] 30, row A L.length c (ci .i64 L) 3 1] := H_
            clear H_
            refine ql (.bool true) (by kernel_rfl) (by kernel_rfl) ?_
            refine wpList_nil ?_
            refine x_then ?_
            refine wp_ret ?_
            refine ret_ (.tuple #[.agg #[.int .i64 n, .slice A6 out.length c6], .bool true]) (res2 rfl (oneRes_agg (p := ⟨g3, 0, none⟩) [.int .i64 n, .slice A6 out.length c6] (by kernel_rfl) (by kernel_rfl) (by kernel_rfl) (by kernel_rfl) (HS.cellsN (i := 1) rfl)) (oneRes_t (by kernel_rfl))) ?_
            replace HS : St W M_ W47 [row A6 out.length c6 (ci .i64 out) 3 1] := St.tail (F := [blk g3 [.int .i64 n, .slice A6 out.length c6] 30, blk g1 [.int .i64 n, .slice A L.length c] 30, row A L.length c (ci .i64 L) 3 1]) (HS.perm (perm_ [1, 2, 3, 0] (by kernel_rfl) rfl))
            have hk9 : k = L.length := by omega
            have hq : out = ins i L := insP_end hP hk9
            have ha := addL_in (n := n) (by omega) (by omega) hv
            rw [← hq] at ha
            exact ⟨_, _, by rw [ha.1, ha.2], by rw [ha.1]; exact HS⟩
          · skip
            replace hb46 := Bool.eq_false_iff.2 hb46
            subst hb46
            refine ql (.bool true) (by kernel_rfl) (by kernel_rfl) ?_
            refine wpList_nil ?_
            refine x_then ?_
            refine wp_cond_true (by kernel_rfl) ?_
            refine wp_region_lit ?_
            refine ql (.slice A6 out.length c6) (by kernel_rfl) (by kernel_rfl) ?_
            refine ql (.int .i64 i) (by kernel_rfl) (by kernel_rfl) ?_
            refine kl HS 1 [.int .i64 i] 3 1 (by kernel_rfl) (by kernel_rfl) rfl (by decide) ?_
            intro g48 W49 H_
            replace HS : St W M_ W49 [row (some ⟨g48, 0, none⟩) 1 1 (ci .i64 ([i])) 3 1, row A6 out.length c6 (ci .i64 out) 3 1, blk g3 [.int .i64 0, .slice none 0 0] 30, blk g1 [.int .i64 n, .slice A L.length c] 30, row A L.length c (ci .i64 L) 3 1] := H_.cast_ (by kernel_rfl)
            clear H_
            obtain ⟨xs53, xs53_⟩ : ∃ z_ : List Int, z_ = out ++ ([i]) := ⟨_, rfl⟩
            have xs53l : xs53.length = out.length + 1 := by rw [xs53_, List.length_append] <;> (try simp only [List.length_cons, List.length_nil]) <;> omega
            refine ka1 HS 1 rfl (Src.of_row HS (i := 0) rfl ci_one) [.int .i64 0] 8 xs53.length (ci .i64 xs53) (by omega) (by rw [xs53_, ci_app]) (by kernel_rfl) (by kernel_rfl) (by kernel_rfl) Tryd.underlying28 (by kernel_rfl) (by kernel_rfl) (by kernel_rfl) (by kernel_rfl) (by decide) (by omega) (by omega) ?_
            intro A50 c51 W52 H_
            replace HS : St W M_ W52 [row (some ⟨g48, 0, none⟩) 1 1 (ci .i64 ([i])) 3 1, row A50 xs53.length c51 (ci .i64 xs53) 3 1, blk g3 [.int .i64 0, .slice none 0 0] 30, blk g1 [.int .i64 n, .slice A L.length c] 30, row A L.length c (ci .i64 L) 3 1] := H_
            clear H_
            refine ql (.slice A50 xs53.length c51) (by kernel_rfl) (by kernel_rfl) ?_
            refine wpList_nil ?_
            refine x_then ?_
            refine wp_seq ?_
            refine wp_region_lit ?_
            refine ql (.pointer (some ⟨g1, 0, none⟩)) (by kernel_rfl) (by kernel_rfl) ?_
            refine ql (.int .i64 n) (by kernel_rfl) (R_load (p := ⟨g1, 0, none⟩) (by kernel_rfl) (by kernel_rfl) (by kernel_rfl) (HS.cell (i := 3) (j := 0) rfl rfl)) ?_
            refine ql (.slice A50 xs53.length c51) (by kernel_rfl) (by kernel_rfl) ?_
            refine ql (.agg #[.int .i64 n, .slice A50 xs53.length c51]) (by kernel_rfl) (by kernel_rfl) ?_
            refine ks (v := .agg #[.int .i64 n, .slice A50 xs53.length c51]) HS 2 rfl (0) [.int .i64 n, .slice A50 xs53.length c51] (by kernel_rfl) (by kernel_rfl) (by kernel_rfl) (by kernel_rfl) (by kernel_rfl) (one_ (by kernel_rfl)) (Nat.le_of_ble_eq_true rfl) rfl ?_
            intro W54 H_
            replace HS : St W M_ W54 [row (some ⟨g48, 0, none⟩) 1 1 (ci .i64 ([i])) 3 1, row A50 xs53.length c51 (ci .i64 xs53) 3 1, blk g3 [.int .i64 n, .slice A50 xs53.length c51] 30, blk g1 [.int .i64 n, .slice A L.length c] 30, row A L.length c (ci .i64 L) 3 1] := H_
            clear H_
            refine ql (.bool true) (by kernel_rfl) (by kernel_rfl) ?_
            refine wpList_nil ?_
            refine x_then ?_
            refine wp_ret ?_
            refine ret_ (.tuple #[.agg #[.int .i64 n, .slice A50 xs53.length c51], .bool true]) (res2 rfl (oneRes_agg (p := ⟨g3, 0, none⟩) [.int .i64 n, .slice A50 xs53.length c51] (by kernel_rfl) (by kernel_rfl) (by kernel_rfl) (by kernel_rfl) (HS.cellsN (i := 2) rfl)) (oneRes_t (by kernel_rfl))) ?_
            replace HS : St W M_ W54 [row A50 xs53.length c51 (ci .i64 xs53) 3 1] := St.tail (F := [row (some ⟨g48, 0, none⟩) 1 1 (ci .i64 ([i])) 3 1, blk g3 [.int .i64 n, .slice A50 xs53.length c51] 30, blk g1 [.int .i64 n, .slice A L.length c] 30, row A L.length c (ci .i64 L) 3 1]) (HS.perm (perm_ [0, 2, 3, 4, 1] (by kernel_rfl) rfl))
            have hk9 : k = L.length := by omega
            have hq : xs53 = ins i L := by rw [xs53_]; exact insP_end0 hP hk9
            have ha := addL_in (n := n) (by omega) (by omega) hv
            rw [← hq] at ha
            exact ⟨_, _, by rw [ha.1, ha.2], by rw [ha.1]; exact HS⟩


set_option maxRecDepth 100000 in
set_option maxHeartbeats 1000000 in
theorem r3or_eq (A : Option Addr) (c : Nat) (L : List Int) (n : Int) (B : Option Addr) (c2 : Nat) (M : List Int) (W : World) (M_ : Nat → Prop) (HS : St W M_ W [row A L.length c (ci .i64 L) 3 1, row B M.length c2 (ci .i64 M) 3 1]) (hl : L.length ≤ 50000) (hl2 : M.length ≤ 50000) (hsM : M.Pairwise (· < ·)) (hlM : ∀ x ∈ M, 0 ≤ x ∧ x < n) : Calls Tryd.prog 45 #[.agg #[.int .i64 n, .slice A L.length c], .agg #[.int .i64 n, .slice B M.length c2]] W fun e W' => ∃ A' c', e = .returned (.tuple #[.agg #[.int .i64 n, .slice A' (uni L M).length c'], .bool (newB L M)]) ∧ St W M_ W' [row A' ((uni L M).length) c' (ci .i64 (uni L M)) 3 1, row B M.length c2 (ci .i64 M) 3 1] := by
  refine calls_enter [.agg #[.int .i64 n, .slice A L.length c], .agg #[.int .i64 n, .slice B M.length c2], undef, undef, undef, undef, undef, undef, undef, undef, undef, undef, undef, undef, undef, undef, undef, undef, undef, undef, undef, undef, undef, undef, undef, undef, undef, undef, undef, undef, undef, undef, undef, undef, undef, undef, undef, undef, undef, undef] Tryd.func45 rfl (by kernel_rfl) ?_
  refine wp_seq ?_
  refine wp_region_lit ?_
  refine kb HS [.int .i64 n, .slice A L.length c] 30 (fun g => .pointer (some ⟨g, 0, none⟩)) (by kernel_rfl) (by kernel_rfl) ?_
  intro g1 W2 H_
  replace HS : St W M_ W2 [blk g1 [.int .i64 n, .slice A L.length c] 30, row A L.length c (ci .i64 L) 3 1, row B M.length c2 (ci .i64 M) 3 1] := H_
  clear H_
  refine kb HS [.int .i64 n, .slice B M.length c2] 30 (fun g => .pointer (some ⟨g, 0, none⟩)) (by kernel_rfl) (by kernel_rfl) ?_
  intro g3 W4 H_
  replace HS : St W M_ W4 [blk g3 [.int .i64 n, .slice B M.length c2] 30, blk g1 [.int .i64 n, .slice A L.length c] 30, row A L.length c (ci .i64 L) 3 1, row B M.length c2 (ci .i64 M) 3 1] := H_
  clear H_
  refine kb HS [.int .i64 0, .slice none 0 0] 30 (fun g => .pointer (some ⟨g, 0, none⟩)) (by kernel_rfl) (by kernel_rfl) ?_
  intro g5 W6 H_
  replace HS : St W M_ W6 [blk g5 [.int .i64 0, .slice none 0 0] 30, blk g3 [.int .i64 n, .slice B M.length c2] 30, blk g1 [.int .i64 n, .slice A L.length c] 30, row A L.length c (ci .i64 L) 3 1, row B M.length c2 (ci .i64 M) 3 1] := H_
  clear H_
  refine ql (.bool false) (by kernel_rfl) (by kernel_rfl) ?_
  refine wpList_nil ?_
  refine x_then ?_
  refine wp_seq ?_
  refine wp_seq ?_
  refine wp_region_lit ?_
  refine ql (.pointer (some ⟨g1, 0, none⟩)) (by kernel_rfl) (by kernel_rfl) ?_
  refine ql (.int .i64 n) (by kernel_rfl) (R_load (p := ⟨g1, 0, none⟩) (by kernel_rfl) (by kernel_rfl) (by kernel_rfl) (HS.cell (i := 2) (j := 0) rfl rfl)) ?_
  refine ql (.pointer (some ⟨g3, 0, none⟩)) (by kernel_rfl) (by kernel_rfl) ?_
  refine ql (.int .i64 n) (by kernel_rfl) (R_load (p := ⟨g3, 0, none⟩) (by kernel_rfl) (by kernel_rfl) (by kernel_rfl) (HS.cell (i := 1) (j := 0) rfl rfl)) ?_
  refine ql (.bool false) (by kernel_rfl) (R_beq (b := (n != n)) (by kernel_rfl) (bne_f (by omega))) ?_
  refine wpList_nil ?_
  refine x_then ?_
  refine wp_cond_false (by kernel_rfl) ?_
  refine wp_skip ?_
  refine x_then ?_
  refine wp_seq ?_
  refine wp_region_lit ?_
  refine ql (.bool false) (by kernel_rfl) (by kernel_rfl) ?_
  refine wpList_nil ?_
  refine x_then ?_
  refine wp_seq ?_
  refine wp_seq ?_
  refine wp_region_lit ?_
  refine ql (.int .i64 0) (by kernel_rfl) (by kernel_rfl) ?_
  refine wpList_nil ?_
  refine x_then ?_
  refine wp_block ?_
  refine wp_loop_ghost (fun kq a' w' => ∃ (J7 : Nat → Value) (k : Int) (ch : Bool) (cur : List Int) (A5 : Option Addr) (c5 : Nat) , a' = Fr [.agg #[.int .i64 n, .slice A L.length c], .agg #[.int .i64 n, .slice B M.length c2], .pointer (some ⟨g1, 0, none⟩), .pointer (some ⟨g3, 0, none⟩), .pointer (some ⟨g5, 0, none⟩), .bool false, .bool ch, .int .i64 k, (J7 8), (J7 9), .pointer (some ⟨g1, 0, none⟩), .int .i64 n, .pointer (some ⟨g3, 0, none⟩), .int .i64 n, .bool false, undef, (J7 16), (J7 17), (J7 18), (J7 19), (J7 20), (J7 21), (J7 22), (J7 23), (J7 24), (J7 25), (J7 26), (J7 27), (J7 28), (J7 29), (J7 30), (J7 31), (J7 32), (J7 33), (J7 34), (J7 35), (J7 36), (J7 37), undef, undef] ∧ kq = (M.length - (k).toNat) ∧ (0 ≤ k) ∧ (k ≤ M.length) ∧ (UniP L M cur ch k) ∧ St W M_ w' [blk g5 [.int .i64 0, .slice none 0 0] 30, blk g3 [.int .i64 n, .slice B M.length c2] 30, blk g1 [.int .i64 n, .slice A5 cur.length c5] 30, row A5 cur.length c5 (ci .i64 cur) 3 1, row B M.length c2 (ci .i64 M) 3 1]) (M.length - ((0 : Int)).toNat) ⟨(fun k_ : Nat => List.getD [.agg #[.int .i64 n, .slice A L.length c], .agg #[.int .i64 n, .slice B M.length c2], .pointer (some ⟨g1, 0, none⟩), .pointer (some ⟨g3, 0, none⟩), .pointer (some ⟨g5, 0, none⟩), .bool false, .bool false, .int .i64 0, undef, undef, .pointer (some ⟨g1, 0, none⟩), .int .i64 n, .pointer (some ⟨g3, 0, none⟩), .int .i64 n, .bool false, undef, undef, undef, undef, undef, undef, undef, undef, undef, undef, undef, undef, undef, undef, undef, undef, undef, undef, undef, undef, undef, undef, undef, undef, undef] k_ undef), (0 : Int), false, L, A, c, congrArg Fr (by kernel_rfl), rfl, by omega, by omega, uniP_start L M, HS⟩ ?_
  clear HS
  intro kq8 a' W9 hrel
  obtain ⟨J7, k, ch, cur, A5, c5, rfl, hk, k0, k1, hU, HS⟩ := hrel
  have hul := uniP_len hU
  refine wp_seq ?_
  refine wp_seq ?_
  refine wp_region_lit ?_
  refine ql (.int .i64 k) (by kernel_rfl) (by kernel_rfl) ?_
  refine ql (.pointer (some ⟨g3, 1, none⟩)) (by kernel_rfl) (by kernel_rfl) ?_
  refine ql (.slice B M.length c2) (by kernel_rfl) (R_load (p := ⟨g3, 1, none⟩) (by kernel_rfl) (by kernel_rfl) (by kernel_rfl) (HS.cell (i := 1) (j := 1) rfl rfl)) ?_
  refine ql (.int .i64 (M.length : Int)) (by kernel_rfl) (by kernel_rfl) ?_
  by_cases hc10 : k < (M.length : Int)
  · skip
    refine ql (.bool true) (by kernel_rfl) (R_bool (p := k < (M.length : Int)) (by kernel_rfl) (hc10)) ?_
    refine wpList_nil ?_
    refine x_then ?_
    refine wp_cond_true (by kernel_rfl) ?_
    refine wp_skip ?_
    refine x_then ?_
    refine wp_seq ?_
    refine wp_block ?_
    refine wp_seq ?_
    refine t_start HS (fun k_ => (row A5 cur.length c5 (ci .i64 cur) 3 1).own k_) 13 (by kernel_rfl) rfl ?_
    intro W11 H_ HD_
    clear HD_
    replace HS : St W M_ W11 [blk g5 [.int .i64 0, .slice none 0 0] 30, blk g3 [.int .i64 n, .slice B M.length c2] 30, blk g1 [.int .i64 n, .slice A5 cur.length c5] 30, row A5 cur.length c5 (ci .i64 cur) 3 1, row B M.length c2 (ci .i64 M) 3 1] := H_
    clear H_
    have HV := HS
    have HK := Kpt.refl (fun k_ => (row A5 cur.length c5 (ci .i64 cur) 3 1).own k_) W11
    refine t_q (n := 12) 0 (.agg #[.int .i64 n, .slice A5 cur.length c5]) rfl (by kernel_rfl) (by kernel_rfl) (fun _ _ _ h => h) (fun w' hk => (R_loadN (p := ⟨g1, 0, none⟩) [.int .i64 n, .slice A5 cur.length c5] (by kernel_rfl) (by kernel_rfl) (by kernel_rfl) (by kernel_rfl) (two_at (hk.cellN (HV.sepB (a := 2) (b := 3) (by decide) rfl rfl) (HV.cell (i := 2) (j := 0) rfl rfl)) (hk.cellN (HV.sepB (a := 2) (b := 3) (by decide) rfl rfl) (HV.cell (i := 2) (j := 1) rfl rfl))))) HK ?_
    refine t_q (n := 11) 1 (.pointer (some ⟨g3, 1, none⟩)) rfl (by kernel_rfl) (by kernel_rfl) (fun _ _ _ h => h) (fun w' hk => (by kernel_rfl)) HK ?_
    refine t_q (n := 10) 2 (.slice B M.length c2) rfl (by kernel_rfl) (by kernel_rfl) (fun _ _ _ h => h) (fun w' hk => (R_load (p := ⟨g3, 1, none⟩) (by kernel_rfl) (by kernel_rfl) (by kernel_rfl) (hk.cellN (HV.sepB (a := 1) (b := 3) (by decide) rfl rfl) (HV.cell (i := 1) (j := 1) rfl rfl)))) HK ?_
    refine t_q (n := 9) 3 (.int .i64 k) rfl (by kernel_rfl) (by kernel_rfl) (fun _ _ _ h => h) (fun w' hk => (by kernel_rfl)) HK ?_
    obtain ⟨g12, rfl⟩ := St.rsome HS (i := 4) rfl (by omega)
    refine t_q (n := 8) 4 (.pointer (some ⟨g12, k.toNat, none⟩)) rfl (by kernel_rfl) (by kernel_rfl) (fun _ _ _ h => h) (fun w' hk => (R_index1 (k := .i64) (g := g12) (n := M.length) (c := c2) (i := k) (by kernel_rfl) (by kernel_rfl) Tryd.underlying28 (by kernel_rfl) (by omega) (by omega))) HK ?_
    refine t_q (n := 7) 5 (.int .i64 (rdI M k)) rfl (by kernel_rfl) (by kernel_rfl) (fun _ _ _ h => h) (fun w' hk => (R_load (p := ⟨g12, k.toNat, none⟩) (by kernel_rfl) (by kernel_rfl) (by kernel_rfl) (hk.cellN (HV.sepR (a := 4) (b := 3) (by decide) rfl rfl) (HV.rcell (i := 4) rfl (ci_rd (i := k) (by omega) (by omega)))))) HK ?_
    refine t_pick2 (n := 6) 6 10 (by kernel_rfl) ?_ ?_
    · skip
      refine t_c2 (n := 6) 6 (f := 44) (args := #[.agg #[.int .i64 n, .slice A5 cur.length c5], .int .i64 (rdI M k)]) rfl (by kernel_rfl) (R_call #[.agg #[.int .i64 n, .slice A5 cur.length c5], .int .i64 (rdI M k)] Tryd.func44 (by kernel_rfl) (by kernel_rfl) (by kernel_rfl)) ?_
      replace HS : St W M_ W11 [row A5 cur.length c5 (ci .i64 cur) 3 1, blk g5 [.int .i64 0, .slice none 0 0] 30, blk g3 [.int .i64 n, .slice (some ⟨g12, 0, none⟩) M.length c2] 30, blk g1 [.int .i64 n, .slice A5 cur.length c5] 30, row (some ⟨g12, 0, none⟩) M.length c2 (ci .i64 M) 3 1] := HS.perm (perm_ [3, 0, 1, 2, 4] (by kernel_rfl) rfl)
      refine (r3add A5 c5 cur n (rdI M k) _ _ (St.focus (F := [row A5 cur.length c5 (ci .i64 cur) 3 1]) HS) (by omega)).mono ?_
      rintro e W15 ⟨A13, c14, rfl, H_⟩
      have hkf_ : ∀ k_, owns [row A5 cur.length c5 (ci .i64 cur) 3 1] k_ → (row A5 cur.length c5 (ci .i64 cur) 3 1).own k_ := by
        intro k_ h_; obtain ⟨e_, he_, ho_⟩ := h_; simp only [List.mem_cons, List.not_mem_nil, or_false] at he_; rcases he_ with rfl <;> first | exact ho_
      refine ⟨_, rfl, HK.trans H_.kept (fun _ h_ => .inl (hkf_ _ h_)), ?_⟩
      replace HK := HK.trans H_.kept (fun _ h_ => .inl (hkf_ _ h_))
      replace HS : St W M_ W15 [row A13 ((addL n cur (rdI M k)).length) c14 (ci .i64 (addL n cur (rdI M k))) 3 1, blk g5 [.int .i64 0, .slice none 0 0] 30, blk g3 [.int .i64 n, .slice (some ⟨g12, 0, none⟩) M.length c2] 30, blk g1 [.int .i64 n, .slice A5 cur.length c5] 30, row (some ⟨g12, 0, none⟩) M.length c2 (ci .i64 M) 3 1] := HS.join (F := [row A5 cur.length c5 (ci .i64 cur) 3 1]) (G := [row A13 ((addL n cur (rdI M k)).length) c14 (ci .i64 (addL n cur (rdI M k))) 3 1]) H_
      clear H_
      refine t_q (n := 5) 7 (.tuple #[.agg #[.int .i64 n, .slice A13 ((addL n cur (rdI M k)).length) c14], .bool (addB n cur (rdI M k))]) rfl (by kernel_rfl) (by kernel_rfl) (fun _ _ _ h => h) (fun w' hk => (by kernel_rfl)) HK ?_
      refine t_q (n := 4) 8 (.agg #[.int .i64 n, .slice A13 ((addL n cur (rdI M k)).length) c14]) rfl (by kernel_rfl) (by kernel_rfl) (fun _ _ _ h => h) (fun w' hk => (by kernel_rfl)) HK ?_
      refine t_q (n := 3) 9 (.bool (addB n cur (rdI M k))) rfl (by kernel_rfl) (by kernel_rfl) (fun _ _ _ h => h) (fun w' hk => (by kernel_rfl)) HK ?_
      obtain ⟨g16, W17, hg_, hw_, H_, hk_⟩ := ex_blk HS [.int .i64 0, .slice none 0 0] 30
      have hv_g16 := Nat.le_trans HK.size (Nat.le_of_eq (Eq.symm hg_))
      refine t_e (n := 2) 10 (.pointer (some ⟨g16, 0, none⟩)) rfl (by kernel_rfl) (by kernel_rfl) (by subst hg_; subst hw_; kernel_rfl) (HK.tr hk_) ?_
      replace HK := HK.tr hk_
      clear hk_
      clear hg_ hw_
      replace HS : St W M_ W17 [blk g16 [.int .i64 0, .slice none 0 0] 30, row A13 ((addL n cur (rdI M k)).length) c14 (ci .i64 (addL n cur (rdI M k))) 3 1, blk g5 [.int .i64 0, .slice none 0 0] 30, blk g3 [.int .i64 n, .slice (some ⟨g12, 0, none⟩) M.length c2] 30, blk g1 [.int .i64 n, .slice A5 cur.length c5] 30, row (some ⟨g12, 0, none⟩) M.length c2 (ci .i64 M) 3 1] := H_
      clear H_
      obtain ⟨W18, hrun_, H_, hk_⟩ := ex_ks (P := Tryd.prog) (ty := 0) (ps := "ref.go:58") (af := #[{ on := 10, ground := Go.Ground.data }, { on := 8, ground := Go.Ground.data }, { on := 6, ground := Go.Ground.chain }, { on := 0, ground := Go.Ground.phase }, { on := 1, ground := Go.Ground.phase }, { on := 2, ground := Go.Ground.phase }, { on := 3, ground := Go.Ground.phase }, { on := 4, ground := Go.Ground.phase }, { on := 5, ground := Go.Ground.phase }, { on := 6, ground := Go.Ground.phase }, { on := 7, ground := Go.Ground.phase }, { on := 8, ground := Go.Ground.phase }, { on := 9, ground := (Go.Ground.textOnly Go.Departure.lateStores) }, { on := 10, ground := Go.Ground.phase }]) (gd := none) (t := 30) (x := (Go.Operand.tmp 8)) (y := (Go.Operand.tmp 31)) (v := .agg #[.int .i64 n, .slice A13 ((addL n cur (rdI M k)).length) c14]) HS 0 rfl (0) [.int .i64 n, .slice A13 ((addL n cur (rdI M k)).length) c14] (by kernel_rfl) (by kernel_rfl) (by kernel_rfl) (by kernel_rfl) (one_ (by kernel_rfl)) (Nat.le_of_ble_eq_true rfl)
      replace HK := HK.trans hk_ (fun _ h_ => .inr (Nat.le_trans hv_g16 (Nat.le_of_eq (Eq.symm h_))))
      refine t_s (n := 1) 11 rfl (by kernel_rfl) (by kernel_rfl) hrun_ HK ?_
      clear hk_ hrun_
      replace HS : St W M_ W18 [blk g16 [.int .i64 n, .slice A13 ((addL n cur (rdI M k)).length) c14] 30, row A13 ((addL n cur (rdI M k)).length) c14 (ci .i64 (addL n cur (rdI M k))) 3 1, blk g5 [.int .i64 0, .slice none 0 0] 30, blk g3 [.int .i64 n, .slice (some ⟨g12, 0, none⟩) M.length c2] 30, blk g1 [.int .i64 n, .slice A5 cur.length c5] 30, row (some ⟨g12, 0, none⟩) M.length c2 (ci .i64 M) 3 1] := H_
      clear H_
      refine t_q (n := 0) 12 (.bool (addB n cur (rdI M k))) rfl (by kernel_rfl) (by kernel_rfl) (fun _ _ _ h => h) (fun w' hk => (by kernel_rfl)) HK ?_
      refine t_done (by kernel_rfl) ?_
      clear HV HK
      refine x_then ?_
      refine wp_seq ?_
      refine wp_region_lit ?_
      refine ql (.agg #[.int .i64 n, .slice A13 ((addL n cur (rdI M k)).length) c14]) (by kernel_rfl) (R_loadN (p := ⟨g16, 0, none⟩) [.int .i64 n, .slice A13 ((addL n cur (rdI M k)).length) c14] (by kernel_rfl) (by kernel_rfl) (by kernel_rfl) (by kernel_rfl) (two_at (HS.cell (i := 0) (j := 0) rfl rfl) (HS.cell (i := 0) (j := 1) rfl rfl))) ?_
      refine ks (v := .agg #[.int .i64 n, .slice A13 ((addL n cur (rdI M k)).length) c14]) HS 4 rfl (0) [.int .i64 n, .slice A13 ((addL n cur (rdI M k)).length) c14] (by kernel_rfl) (by kernel_rfl) (by kernel_rfl) (by kernel_rfl) (by kernel_rfl) (one_ (by kernel_rfl)) (Nat.le_of_ble_eq_true rfl) rfl ?_
      intro W19 H_
      replace HS : St W M_ W19 [blk g16 [.int .i64 n, .slice A13 ((addL n cur (rdI M k)).length) c14] 30, row A13 ((addL n cur (rdI M k)).length) c14 (ci .i64 (addL n cur (rdI M k))) 3 1, blk g5 [.int .i64 0, .slice none 0 0] 30, blk g3 [.int .i64 n, .slice (some ⟨g12, 0, none⟩) M.length c2] 30, blk g1 [.int .i64 n, .slice A13 ((addL n cur (rdI M k)).length) c14] 30, row (some ⟨g12, 0, none⟩) M.length c2 (ci .i64 M) 3 1] := H_
      clear H_
      refine wpList_nil ?_
      refine x_then ?_
      refine wp_region_lit ?_
      refine ql (.bool ch) (by kernel_rfl) (by kernel_rfl) ?_
      refine ql (.bool ch) (by kernel_rfl) (by kernel_rfl) ?_
      by_cases hb20 : ch = true
      · skip
        subst hb20
        refine qln (by kernel_rfl) ?_
        refine ql (.bool true) (by kernel_rfl) (by kernel_rfl) ?_
        refine ql (.bool true) (by kernel_rfl) (by kernel_rfl) ?_
        refine wpList_nil ?_
        refine x_inb ?_
        refine x_then ?_
        refine wp_region_lit ?_
        refine ql (.int .i64 k) (by kernel_rfl) (by kernel_rfl) ?_
        refine ql (.int .i64 (k + 1)) (by kernel_rfl) (R_int (by kernel_rfl) (w64 (by omega))) ?_
        refine ql (.int .i64 (k + 1)) (by kernel_rfl) (by kernel_rfl) ?_
        refine wpList_nil ?_
        replace HS : St W M_ W19 [blk g5 [.int .i64 0, .slice none 0 0] 30, blk g3 [.int .i64 n, .slice (some ⟨g12, 0, none⟩) M.length c2] 30, blk g1 [.int .i64 n, .slice A13 ((addL n cur (rdI M k)).length) c14] 30, row A13 ((addL n cur (rdI M k)).length) c14 (ci .i64 (addL n cur (rdI M k))) 3 1, row (some ⟨g12, 0, none⟩) M.length c2 (ci .i64 M) 3 1] := St.tail (F := [blk g16 [.int .i64 n, .slice A13 ((addL n cur (rdI M k)).length) c14] 30]) (HS.perm (perm_ [0, 2, 3, 4, 1, 5] (by kernel_rfl) rfl))
        refine x_then ?_
        exact ⟨M.length - (k + 1).toNat, by omega, (fun k_ : Nat => List.getD [.agg #[.int .i64 n, .slice A L.length c], .agg #[.int .i64 n, .slice (some ⟨g12, 0, none⟩) M.length c2], .pointer (some ⟨g1, 0, none⟩), .pointer (some ⟨g3, 0, none⟩), .pointer (some ⟨g5, 0, none⟩), .bool false, .bool true, .int .i64 (k + 1), .pointer (some ⟨g16, 0, none⟩), .bool (addB n cur (rdI M k)), .pointer (some ⟨g1, 0, none⟩), .int .i64 n, .pointer (some ⟨g3, 0, none⟩), .int .i64 n, .bool false, undef, .int .i64 k, .pointer (some ⟨g3, 1, none⟩), .slice (some ⟨g12, 0, none⟩) M.length c2, .int .i64 (M.length : Int), .bool true, .int .i64 k, .int .i64 (k + 1), .tuple #[.agg #[.int .i64 n, .slice A13 ((addL n cur (rdI M k)).length) c14], .bool (addB n cur (rdI M k))], .agg #[.int .i64 n, .slice A5 cur.length c5], .pointer (some ⟨g3, 1, none⟩), .slice (some ⟨g12, 0, none⟩) M.length c2, .int .i64 k, .pointer (some ⟨g12, k.toNat, none⟩), .int .i64 (rdI M k), .tuple #[.agg #[.int .i64 n, .slice A13 ((addL n cur (rdI M k)).length) c14], .bool (addB n cur (rdI M k))], .agg #[.int .i64 n, .slice A13 ((addL n cur (rdI M k)).length) c14], .bool (addB n cur (rdI M k)), .agg #[.int .i64 n, .slice A13 ((addL n cur (rdI M k)).length) c14], .bool true, .bool true, undef, .bool true, undef, undef] k_ undef), k + 1, true, (addL n cur (rdI M k)), A13, c14, congrArg Fr (by kernel_rfl), rfl, by omega, by omega, (by have h_ := uniP_step hU hsM hlM k0 (by omega); simpa using h_), HS⟩
      · skip
        replace hb20 := Bool.eq_false_iff.2 hb20
        subst hb20
        refine ql (.bool (addB n cur (rdI M k))) (by kernel_rfl) (by kernel_rfl) ?_
        refine ql (.bool (addB n cur (rdI M k))) (by kernel_rfl) (by kernel_rfl) ?_
        refine ql (.bool (addB n cur (rdI M k))) (by kernel_rfl) (by kernel_rfl) ?_
        refine wpList_nil ?_
        refine x_inb ?_
        refine x_then ?_
        refine wp_region_lit ?_
        refine ql (.int .i64 k) (by kernel_rfl) (by kernel_rfl) ?_
        refine ql (.int .i64 (k + 1)) (by kernel_rfl) (R_int (by kernel_rfl) (w64 (by omega))) ?_
        refine ql (.int .i64 (k + 1)) (by kernel_rfl) (by kernel_rfl) ?_
        refine wpList_nil ?_
        replace HS : St W M_ W19 [blk g5 [.int .i64 0, .slice none 0 0] 30, blk g3 [.int .i64 n, .slice (some ⟨g12, 0, none⟩) M.length c2] 30, blk g1 [.int .i64 n, .slice A13 ((addL n cur (rdI M k)).length) c14] 30, row A13 ((addL n cur (rdI M k)).length) c14 (ci .i64 (addL n cur (rdI M k))) 3 1, row (some ⟨g12, 0, none⟩) M.length c2 (ci .i64 M) 3 1] := St.tail (F := [blk g16 [.int .i64 n, .slice A13 ((addL n cur (rdI M k)).length) c14] 30]) (HS.perm (perm_ [0, 2, 3, 4, 1, 5] (by kernel_rfl) rfl))
        refine x_then ?_
        exact ⟨M.length - (k + 1).toNat, by omega, (fun k_ : Nat => List.getD [.agg #[.int .i64 n, .slice A L.length c], .agg #[.int .i64 n, .slice (some ⟨g12, 0, none⟩) M.length c2], .pointer (some ⟨g1, 0, none⟩), .pointer (some ⟨g3, 0, none⟩), .pointer (some ⟨g5, 0, none⟩), .bool false, .bool (addB n cur (rdI M k)), .int .i64 (k + 1), .pointer (some ⟨g16, 0, none⟩), .bool (addB n cur (rdI M k)), .pointer (some ⟨g1, 0, none⟩), .int .i64 n, .pointer (some ⟨g3, 0, none⟩), .int .i64 n, .bool false, undef, .int .i64 k, .pointer (some ⟨g3, 1, none⟩), .slice (some ⟨g12, 0, none⟩) M.length c2, .int .i64 (M.length : Int), .bool true, .int .i64 k, .int .i64 (k + 1), .tuple #[.agg #[.int .i64 n, .slice A13 ((addL n cur (rdI M k)).length) c14], .bool (addB n cur (rdI M k))], .agg #[.int .i64 n, .slice A5 cur.length c5], .pointer (some ⟨g3, 1, none⟩), .slice (some ⟨g12, 0, none⟩) M.length c2, .int .i64 k, .pointer (some ⟨g12, k.toNat, none⟩), .int .i64 (rdI M k), .tuple #[.agg #[.int .i64 n, .slice A13 ((addL n cur (rdI M k)).length) c14], .bool (addB n cur (rdI M k))], .agg #[.int .i64 n, .slice A13 ((addL n cur (rdI M k)).length) c14], .bool (addB n cur (rdI M k)), .agg #[.int .i64 n, .slice A13 ((addL n cur (rdI M k)).length) c14], .bool false, .bool false, .bool (addB n cur (rdI M k)), .bool (addB n cur (rdI M k)), undef, undef] k_ undef), k + 1, (addB n cur (rdI M k)), (addL n cur (rdI M k)), A13, c14, congrArg Fr (by kernel_rfl), rfl, by omega, by omega, (by have h_ := uniP_step hU hsM hlM k0 (by omega); simpa using h_), HS⟩
    · skip
      obtain ⟨g21, W22, hg_, hw_, H_, hk_⟩ := ex_blk HS [.int .i64 0, .slice none 0 0] 30
      have hv_g21 := Nat.le_trans HK.size (Nat.le_of_eq (Eq.symm hg_))
      refine t_e2 (n := 6) 10 (.pointer (some ⟨g21, 0, none⟩)) rfl (by kernel_rfl) (by subst hg_; subst hw_; kernel_rfl) (HK.tr hk_) ?_
      replace HK := HK.tr hk_
      clear hk_
      clear hg_ hw_
      replace HS : St W M_ W22 [blk g21 [.int .i64 0, .slice none 0 0] 30, blk g5 [.int .i64 0, .slice none 0 0] 30, blk g3 [.int .i64 n, .slice (some ⟨g12, 0, none⟩) M.length c2] 30, blk g1 [.int .i64 n, .slice A5 cur.length c5] 30, row A5 cur.length c5 (ci .i64 cur) 3 1, row (some ⟨g12, 0, none⟩) M.length c2 (ci .i64 M) 3 1] := H_
      clear H_
      refine t_c (n := 5) 6 (f := 44) (args := #[.agg #[.int .i64 n, .slice A5 cur.length c5], .int .i64 (rdI M k)]) rfl (by kernel_rfl) (by kernel_rfl) (R_call #[.agg #[.int .i64 n, .slice A5 cur.length c5], .int .i64 (rdI M k)] Tryd.func44 (by kernel_rfl) (by kernel_rfl) (by kernel_rfl)) ?_
      replace HS : St W M_ W22 [row A5 cur.length c5 (ci .i64 cur) 3 1, blk g21 [.int .i64 0, .slice none 0 0] 30, blk g5 [.int .i64 0, .slice none 0 0] 30, blk g3 [.int .i64 n, .slice (some ⟨g12, 0, none⟩) M.length c2] 30, blk g1 [.int .i64 n, .slice A5 cur.length c5] 30, row (some ⟨g12, 0, none⟩) M.length c2 (ci .i64 M) 3 1] := HS.perm (perm_ [4, 0, 1, 2, 3, 5] (by kernel_rfl) rfl)
      refine (r3add A5 c5 cur n (rdI M k) _ _ (St.focus (F := [row A5 cur.length c5 (ci .i64 cur) 3 1]) HS) (by omega)).mono ?_
      rintro e W25 ⟨A23, c24, rfl, H_⟩
      have hkf_ : ∀ k_, owns [row A5 cur.length c5 (ci .i64 cur) 3 1] k_ → (row A5 cur.length c5 (ci .i64 cur) 3 1).own k_ := by
        intro k_ h_; obtain ⟨e_, he_, ho_⟩ := h_; simp only [List.mem_cons, List.not_mem_nil, or_false] at he_; rcases he_ with rfl <;> first | exact ho_
      refine ⟨_, rfl, HK.trans H_.kept (fun _ h_ => .inl (hkf_ _ h_)), ?_⟩
      replace HK := HK.trans H_.kept (fun _ h_ => .inl (hkf_ _ h_))
      replace HS : St W M_ W25 [row A23 ((addL n cur (rdI M k)).length) c24 (ci .i64 (addL n cur (rdI M k))) 3 1, blk g21 [.int .i64 0, .slice none 0 0] 30, blk g5 [.int .i64 0, .slice none 0 0] 30, blk g3 [.int .i64 n, .slice (some ⟨g12, 0, none⟩) M.length c2] 30, blk g1 [.int .i64 n, .slice A5 cur.length c5] 30, row (some ⟨g12, 0, none⟩) M.length c2 (ci .i64 M) 3 1] := HS.join (F := [row A5 cur.length c5 (ci .i64 cur) 3 1]) (G := [row A23 ((addL n cur (rdI M k)).length) c24 (ci .i64 (addL n cur (rdI M k))) 3 1]) H_
      clear H_
      refine t_q (n := 4) 7 (.tuple #[.agg #[.int .i64 n, .slice A23 ((addL n cur (rdI M k)).length) c24], .bool (addB n cur (rdI M k))]) rfl (by kernel_rfl) (by kernel_rfl) (fun _ _ _ h => h) (fun w' hk => (by kernel_rfl)) HK ?_
      refine t_q (n := 3) 8 (.agg #[.int .i64 n, .slice A23 ((addL n cur (rdI M k)).length) c24]) rfl (by kernel_rfl) (by kernel_rfl) (fun _ _ _ h => h) (fun w' hk => (by kernel_rfl)) HK ?_
      refine t_q (n := 2) 9 (.bool (addB n cur (rdI M k))) rfl (by kernel_rfl) (by kernel_rfl) (fun _ _ _ h => h) (fun w' hk => (by kernel_rfl)) HK ?_
      obtain ⟨W26, hrun_, H_, hk_⟩ := ex_ks (P := Tryd.prog) (ty := 0) (ps := "ref.go:58") (af := #[{ on := 10, ground := Go.Ground.data }, { on := 8, ground := Go.Ground.data }, { on := 6, ground := Go.Ground.chain }, { on := 0, ground := Go.Ground.phase }, { on := 1, ground := Go.Ground.phase }, { on := 2, ground := Go.Ground.phase }, { on := 3, ground := Go.Ground.phase }, { on := 4, ground := Go.Ground.phase }, { on := 5, ground := Go.Ground.phase }, { on := 6, ground := Go.Ground.phase }, { on := 7, ground := Go.Ground.phase }, { on := 8, ground := Go.Ground.phase }, { on := 9, ground := (Go.Ground.textOnly Go.Departure.lateStores) }, { on := 10, ground := Go.Ground.phase }]) (gd := none) (t := 30) (x := (Go.Operand.tmp 8)) (y := (Go.Operand.tmp 31)) (v := .agg #[.int .i64 n, .slice A23 ((addL n cur (rdI M k)).length) c24]) HS 1 rfl (0) [.int .i64 n, .slice A23 ((addL n cur (rdI M k)).length) c24] (by kernel_rfl) (by kernel_rfl) (by kernel_rfl) (by kernel_rfl) (one_ (by kernel_rfl)) (Nat.le_of_ble_eq_true rfl)
      replace HK := HK.trans hk_ (fun _ h_ => .inr (Nat.le_trans hv_g21 (Nat.le_of_eq (Eq.symm h_))))
      refine t_s (n := 1) 11 rfl (by kernel_rfl) (by kernel_rfl) hrun_ HK ?_
      clear hk_ hrun_
      replace HS : St W M_ W26 [row A23 ((addL n cur (rdI M k)).length) c24 (ci .i64 (addL n cur (rdI M k))) 3 1, blk g21 [.int .i64 n, .slice A23 ((addL n cur (rdI M k)).length) c24] 30, blk g5 [.int .i64 0, .slice none 0 0] 30, blk g3 [.int .i64 n, .slice (some ⟨g12, 0, none⟩) M.length c2] 30, blk g1 [.int .i64 n, .slice A5 cur.length c5] 30, row (some ⟨g12, 0, none⟩) M.length c2 (ci .i64 M) 3 1] := H_
      clear H_
      refine t_q (n := 0) 12 (.bool (addB n cur (rdI M k))) rfl (by kernel_rfl) (by kernel_rfl) (fun _ _ _ h => h) (fun w' hk => (by kernel_rfl)) HK ?_
      refine t_done (by kernel_rfl) ?_
      clear HV HK
      refine x_then ?_
      refine wp_seq ?_
      refine wp_region_lit ?_
      refine ql (.agg #[.int .i64 n, .slice A23 ((addL n cur (rdI M k)).length) c24]) (by kernel_rfl) (R_loadN (p := ⟨g21, 0, none⟩) [.int .i64 n, .slice A23 ((addL n cur (rdI M k)).length) c24] (by kernel_rfl) (by kernel_rfl) (by kernel_rfl) (by kernel_rfl) (two_at (HS.cell (i := 1) (j := 0) rfl rfl) (HS.cell (i := 1) (j := 1) rfl rfl))) ?_
      refine ks (v := .agg #[.int .i64 n, .slice A23 ((addL n cur (rdI M k)).length) c24]) HS 4 rfl (0) [.int .i64 n, .slice A23 ((addL n cur (rdI M k)).length) c24] (by kernel_rfl) (by kernel_rfl) (by kernel_rfl) (by kernel_rfl) (by kernel_rfl) (one_ (by kernel_rfl)) (Nat.le_of_ble_eq_true rfl) rfl ?_
      intro W27 H_
      replace HS : St W M_ W27 [row A23 ((addL n cur (rdI M k)).length) c24 (ci .i64 (addL n cur (rdI M k))) 3 1, blk g21 [.int .i64 n, .slice A23 ((addL n cur (rdI M k)).length) c24] 30, blk g5 [.int .i64 0, .slice none 0 0] 30, blk g3 [.int .i64 n, .slice (some ⟨g12, 0, none⟩) M.length c2] 30, blk g1 [.int .i64 n, .slice A23 ((addL n cur (rdI M k)).length) c24] 30, row (some ⟨g12, 0, none⟩) M.length c2 (ci .i64 M) 3 1] := H_
      clear H_
      refine wpList_nil ?_
      refine x_then ?_
      refine wp_region_lit ?_
      refine ql (.bool ch) (by kernel_rfl) (by kernel_rfl) ?_
      refine ql (.bool ch) (by kernel_rfl) (by kernel_rfl) ?_
      by_cases hb28 : ch = true
      · skip
        subst hb28
        refine qln (by kernel_rfl) ?_
        refine ql (.bool true) (by kernel_rfl) (by kernel_rfl) ?_
        refine ql (.bool true) (by kernel_rfl) (by kernel_rfl) ?_
        refine wpList_nil ?_
        refine x_inb ?_
        refine x_then ?_
        refine wp_region_lit ?_
        refine ql (.int .i64 k) (by kernel_rfl) (by kernel_rfl) ?_
        refine ql (.int .i64 (k + 1)) (by kernel_rfl) (R_int (by kernel_rfl) (w64 (by omega))) ?_
        refine ql (.int .i64 (k + 1)) (by kernel_rfl) (by kernel_rfl) ?_
        refine wpList_nil ?_
        replace HS : St W M_ W27 [blk g5 [.int .i64 0, .slice none 0 0] 30, blk g3 [.int .i64 n, .slice (some ⟨g12, 0, none⟩) M.length c2] 30, blk g1 [.int .i64 n, .slice A23 ((addL n cur (rdI M k)).length) c24] 30, row A23 ((addL n cur (rdI M k)).length) c24 (ci .i64 (addL n cur (rdI M k))) 3 1, row (some ⟨g12, 0, none⟩) M.length c2 (ci .i64 M) 3 1] := St.tail (F := [blk g21 [.int .i64 n, .slice A23 ((addL n cur (rdI M k)).length) c24] 30]) (HS.perm (perm_ [1, 2, 3, 4, 0, 5] (by kernel_rfl) rfl))
        refine x_then ?_
        exact ⟨M.length - (k + 1).toNat, by omega, (fun k_ : Nat => List.getD [.agg #[.int .i64 n, .slice A L.length c], .agg #[.int .i64 n, .slice (some ⟨g12, 0, none⟩) M.length c2], .pointer (some ⟨g1, 0, none⟩), .pointer (some ⟨g3, 0, none⟩), .pointer (some ⟨g5, 0, none⟩), .bool false, .bool true, .int .i64 (k + 1), .pointer (some ⟨g21, 0, none⟩), .bool (addB n cur (rdI M k)), .pointer (some ⟨g1, 0, none⟩), .int .i64 n, .pointer (some ⟨g3, 0, none⟩), .int .i64 n, .bool false, undef, .int .i64 k, .pointer (some ⟨g3, 1, none⟩), .slice (some ⟨g12, 0, none⟩) M.length c2, .int .i64 (M.length : Int), .bool true, .int .i64 k, .int .i64 (k + 1), .tuple #[.agg #[.int .i64 n, .slice A23 ((addL n cur (rdI M k)).length) c24], .bool (addB n cur (rdI M k))], .agg #[.int .i64 n, .slice A5 cur.length c5], .pointer (some ⟨g3, 1, none⟩), .slice (some ⟨g12, 0, none⟩) M.length c2, .int .i64 k, .pointer (some ⟨g12, k.toNat, none⟩), .int .i64 (rdI M k), .tuple #[.agg #[.int .i64 n, .slice A23 ((addL n cur (rdI M k)).length) c24], .bool (addB n cur (rdI M k))], .agg #[.int .i64 n, .slice A23 ((addL n cur (rdI M k)).length) c24], .bool (addB n cur (rdI M k)), .agg #[.int .i64 n, .slice A23 ((addL n cur (rdI M k)).length) c24], .bool true, .bool true, undef, .bool true, undef, undef] k_ undef), k + 1, true, (addL n cur (rdI M k)), A23, c24, congrArg Fr (by kernel_rfl), rfl, by omega, by omega, (by have h_ := uniP_step hU hsM hlM k0 (by omega); simpa using h_), HS⟩
      · skip
        replace hb28 := Bool.eq_false_iff.2 hb28
        subst hb28
        refine ql (.bool (addB n cur (rdI M k))) (by kernel_rfl) (by kernel_rfl) ?_
        refine ql (.bool (addB n cur (rdI M k))) (by kernel_rfl) (by kernel_rfl) ?_
        refine ql (.bool (addB n cur (rdI M k))) (by kernel_rfl) (by kernel_rfl) ?_
        refine wpList_nil ?_
        refine x_inb ?_
        refine x_then ?_
        refine wp_region_lit ?_
        refine ql (.int .i64 k) (by kernel_rfl) (by kernel_rfl) ?_
        refine ql (.int .i64 (k + 1)) (by kernel_rfl) (R_int (by kernel_rfl) (w64 (by omega))) ?_
        refine ql (.int .i64 (k + 1)) (by kernel_rfl) (by kernel_rfl) ?_
        refine wpList_nil ?_
        replace HS : St W M_ W27 [blk g5 [.int .i64 0, .slice none 0 0] 30, blk g3 [.int .i64 n, .slice (some ⟨g12, 0, none⟩) M.length c2] 30, blk g1 [.int .i64 n, .slice A23 ((addL n cur (rdI M k)).length) c24] 30, row A23 ((addL n cur (rdI M k)).length) c24 (ci .i64 (addL n cur (rdI M k))) 3 1, row (some ⟨g12, 0, none⟩) M.length c2 (ci .i64 M) 3 1] := St.tail (F := [blk g21 [.int .i64 n, .slice A23 ((addL n cur (rdI M k)).length) c24] 30]) (HS.perm (perm_ [1, 2, 3, 4, 0, 5] (by kernel_rfl) rfl))
        refine x_then ?_
        exact ⟨M.length - (k + 1).toNat, by omega, (fun k_ : Nat => List.getD [.agg #[.int .i64 n, .slice A L.length c], .agg #[.int .i64 n, .slice (some ⟨g12, 0, none⟩) M.length c2], .pointer (some ⟨g1, 0, none⟩), .pointer (some ⟨g3, 0, none⟩), .pointer (some ⟨g5, 0, none⟩), .bool false, .bool (addB n cur (rdI M k)), .int .i64 (k + 1), .pointer (some ⟨g21, 0, none⟩), .bool (addB n cur (rdI M k)), .pointer (some ⟨g1, 0, none⟩), .int .i64 n, .pointer (some ⟨g3, 0, none⟩), .int .i64 n, .bool false, undef, .int .i64 k, .pointer (some ⟨g3, 1, none⟩), .slice (some ⟨g12, 0, none⟩) M.length c2, .int .i64 (M.length : Int), .bool true, .int .i64 k, .int .i64 (k + 1), .tuple #[.agg #[.int .i64 n, .slice A23 ((addL n cur (rdI M k)).length) c24], .bool (addB n cur (rdI M k))], .agg #[.int .i64 n, .slice A5 cur.length c5], .pointer (some ⟨g3, 1, none⟩), .slice (some ⟨g12, 0, none⟩) M.length c2, .int .i64 k, .pointer (some ⟨g12, k.toNat, none⟩), .int .i64 (rdI M k), .tuple #[.agg #[.int .i64 n, .slice A23 ((addL n cur (rdI M k)).length) c24], .bool (addB n cur (rdI M k))], .agg #[.int .i64 n, .slice A23 ((addL n cur (rdI M k)).length) c24], .bool (addB n cur (rdI M k)), .agg #[.int .i64 n, .slice A23 ((addL n cur (rdI M k)).length) c24], .bool false, .bool false, .bool (addB n cur (rdI M k)), .bool (addB n cur (rdI M k)), undef, undef] k_ undef), k + 1, (addB n cur (rdI M k)), (addL n cur (rdI M k)), A23, c24, congrArg Fr (by kernel_rfl), rfl, by omega, by omega, (by have h_ := uniP_step hU hsM hlM k0 (by omega); simpa using h_), HS⟩
  · skip
    refine ql (.bool false) (by kernel_rfl) (R_nbool (p := k < (M.length : Int)) (by kernel_rfl) (hc10)) ?_
    refine wpList_nil ?_
    refine x_then ?_
    refine wp_cond_false (by kernel_rfl) ?_
    refine wp_exit ?_
    refine x_thenE ?_
    refine x_thenE ?_
    refine x_hit ?_
    refine x_then ?_
    refine wp_seq ?_
    refine wp_region_lit ?_
    refine ql (.agg #[.int .i64 n, .slice A5 cur.length c5]) (by kernel_rfl) (R_loadN (p := ⟨g1, 0, none⟩) [.int .i64 n, .slice A5 cur.length c5] (by kernel_rfl) (by kernel_rfl) (by kernel_rfl) (by kernel_rfl) (two_at (HS.cell (i := 2) (j := 0) rfl rfl) (HS.cell (i := 2) (j := 1) rfl rfl))) ?_
    refine ql (.bool ch) (by kernel_rfl) (by kernel_rfl) ?_
    refine ks (v := .agg #[.int .i64 n, .slice A5 cur.length c5]) HS 0 rfl (0) [.int .i64 n, .slice A5 cur.length c5] (by kernel_rfl) (by kernel_rfl) (by kernel_rfl) (by kernel_rfl) (by kernel_rfl) (one_ (by kernel_rfl)) (Nat.le_of_ble_eq_true rfl) rfl ?_
    intro W29 H_
    replace HS : St W M_ W29 [blk g5 [.int .i64 n, .slice A5 cur.length c5] 30, blk g3 [.int .i64 n, .slice B M.length c2] 30, blk g1 [.int .i64 n, .slice A5 cur.length c5] 30, row A5 cur.length c5 (ci .i64 cur) 3 1, row B M.length c2 (ci .i64 M) 3 1] := H_
    clear H_
    refine ql (.bool ch) (by kernel_rfl) (by kernel_rfl) ?_
    refine wpList_nil ?_
    refine x_then ?_
    refine wp_ret ?_
    refine ret_ (.tuple #[.agg #[.int .i64 n, .slice A5 cur.length c5], .bool ch]) (res2 rfl (oneRes_agg (p := ⟨g5, 0, none⟩) [.int .i64 n, .slice A5 cur.length c5] (by kernel_rfl) (by kernel_rfl) (by kernel_rfl) (by kernel_rfl) (HS.cellsN (i := 0) rfl)) (oneRes_t (by kernel_rfl))) ?_
    replace HS := HS.drop1
    replace HS := HS.drop1
    replace HS := HS.drop1
    have hk9 : k = M.length := by omega
    obtain ⟨hq, hz⟩ := uniP_end hU hk9
    subst hq
    subst hz
    exact ⟨_, _, rfl, HS⟩

theorem r3or_e2 (A : Option Addr) (c : Nat) (L : List Int) (n : Int) (B : Option Addr) (c2 : Nat) (M : List Int) (m : Int) (W : World) (M_ : Nat → Prop) (HS : St W M_ W [row A L.length c (ci .i64 L) 3 1, row B M.length c2 (ci .i64 M) 3 1]) (hl : L.length ≤ 50000) (hl2 : M.length ≤ 50000) (hnm : n = m) (hsM : M.Pairwise (· < ·)) (hlM : ∀ x ∈ M, 0 ≤ x ∧ x < m) : Calls Tryd.prog 45 #[.agg #[.int .i64 n, .slice A L.length c], .agg #[.int .i64 m, .slice B M.length c2]] W fun e W' => ∃ A' c', e = .returned (.tuple #[.agg #[.int .i64 n, .slice A' (uni L M).length c'], .bool (newB L M)]) ∧ St W M_ W' [row A' ((uni L M).length) c' (ci .i64 (uni L M)) 3 1, row B M.length c2 (ci .i64 M) 3 1] := by
  subst hnm
  exact r3or_eq A c L n B c2 M W M_ HS hl hl2 hsM hlM


theorem dadd (g c : Nat) (A : Option Addr) (ws : List Int) (n : Int) (L : List Int) (i : Int) (W : World) (M : Nat → Prop) (HS : St W M W [blk g [.slice A ws.length c, .int .i64 n] 62, row A ws.length c (ci .u64 ws) 63 1]) (hR : Rep ws n L) (hn : n ≤ 1048576) : Calls Tryd.prog 12 #[.pointer (some ⟨g, 0, none⟩), .int .i64 i] W fun e W' => ∃ ws', e = .returned (.bool (addB n L i)) ∧ St W M W' [blk g [.slice A ws'.length c, .int .i64 n] 62, row A ws'.length c (ci .u64 ws') 63 1] ∧ Rep ws' n (addL n L i) := by
  by_cases h : 0 ≤ i ∧ i < n
  · by_cases hi : i ∈ L
    · have ha := addL_out (n := n) (.inr (.inr hi))
      refine (dadd_old g c A ws n L i W M HS hR hn hi).mono ?_
      rintro e W' ⟨rfl, H⟩
      exact ⟨ws, by rw [ha.2], H, by rw [ha.1]; exact hR⟩
    · have ha := addL_in h.1 h.2 hi
      refine (dadd_new g c A ws n L i W M HS hR hn h.1 h.2 hi).mono ?_
      rintro e W' ⟨ws', rfl, H, h2⟩
      exact ⟨ws', by rw [ha.2], H, by rw [ha.1]; exact h2⟩
  · have ha := addL_out (n := n) (i := i) (L := L) (by omega)
    refine (dadd_out g c A ws n L i W M HS hR hn (by omega)).mono ?_
    rintro e W' ⟨rfl, H⟩
    exact ⟨ws, by rw [ha.2], H, by rw [ha.1]; exact hR⟩

theorem dhas (g c : Nat) (A : Option Addr) (ws : List Int) (n : Int) (L : List Int) (i : Int) (W : World) (hz0 : W.cell? ⟨g, 0, none⟩ = some (.slice A ws.length c)) (hz1 : W.cell? ⟨g, 1, none⟩ = some (.int .i64 n)) (hr : Rd W A (ci .u64 ws)) (hR : Rep ws n L) (hn : n ≤ 1048576) : Calls Tryd.prog 16 #[.pointer (some ⟨g, 0, none⟩), .int .i64 i] W fun e W' => e = .returned (.bool (decide (i ∈ L))) ∧ St W (owns []) W' [] := by
  by_cases hi : i ∈ L
  · rw [decide_eq_true hi]; exact dhas_t g c A ws n L i W hz0 hz1 hr hR hn hi
  · rw [decide_eq_false hi]; exact dhas_n g c A ws n L i W hz0 hz1 hr hR hn hi


set_option maxRecDepth 100000 in
set_option maxHeartbeats 1000000 in
theorem cnan (x : Int) (W : World) : Calls Tryd.prog 61 #[.int .i32 x] W fun e W' => e = .returned (.bool false) ∧ St W (owns []) W' [] := by
  have HS : St W (owns []) W [] := St.start W _
  refine calls_enter [.int .i32 x, undef, undef, undef, undef, undef] Tryd.func61 rfl (by kernel_rfl) ?_
  refine wp_seq ?_
  refine wp_region_lit ?_
  refine ql (.bool false) (by kernel_rfl) (by kernel_rfl) ?_
  refine wpList_nil ?_
  refine x_then ?_
  refine wp_seq ?_
  refine wp_region_lit ?_
  refine ql (.int .i32 x) (by kernel_rfl) (by kernel_rfl) ?_
  refine ql (.int .i32 x) (by kernel_rfl) (by kernel_rfl) ?_
  refine ql (.bool false) (by kernel_rfl) (R_beq (b := (x != x)) (by kernel_rfl) (bne_f (by omega))) ?_
  refine ql (.bool false) (by kernel_rfl) (by kernel_rfl) ?_
  refine wpList_nil ?_
  refine x_then ?_
  refine wp_ret ?_
  refine ret_ (.bool false) (by kernel_rfl) ?_
  exact ⟨rfl, HS⟩

set_option maxRecDepth 100000 in
set_option maxHeartbeats 1000000 in
theorem snan (x : Int) (W : World) : Calls Tryd.prog 59 #[.int .i32 x] W fun e W' => e = .returned (.bool false) ∧ St W (owns []) W' [] := by
  have HS : St W (owns []) W [] := St.start W _
  refine calls_enter [.int .i32 x, undef, undef, undef, undef, undef] Tryd.func59 rfl (by kernel_rfl) ?_
  refine wp_seq ?_
  refine wp_region_lit ?_
  refine ql (.bool false) (by kernel_rfl) (by kernel_rfl) ?_
  refine wpList_nil ?_
  refine x_then ?_
  refine wp_seq ?_
  refine wp_region_lit ?_
  refine ql (.int .i32 x) (by kernel_rfl) (by kernel_rfl) ?_
  refine ql (.int .i32 x) (by kernel_rfl) (by kernel_rfl) ?_
  refine ql (.bool false) (by kernel_rfl) (R_beq (b := (x != x)) (by kernel_rfl) (bne_f (by omega))) ?_
  refine ql (.bool false) (by kernel_rfl) (by kernel_rfl) ?_
  refine wpList_nil ?_
  refine x_then ?_
  refine wp_ret ?_
  refine ret_ (.bool false) (by kernel_rfl) ?_
  exact ⟨rfl, HS⟩

set_option maxRecDepth 100000 in
set_option maxHeartbeats 1000000 in
theorem cless (x y : Int) (W : World) : Calls Tryd.prog 58 #[.int .i32 x, .int .i32 y] W fun e W' => e = .returned (.bool (decide (x < y))) ∧ St W (owns []) W' [] := by
  have HS : St W (owns []) W [] := St.start W _
  refine calls_enter [.int .i32 x, .int .i32 y, undef, undef, undef, undef, undef, undef, undef, undef, undef, undef, undef, undef, undef, undef, undef] Tryd.func58 rfl (by kernel_rfl) ?_
  refine wp_seq ?_
  refine wp_region_lit ?_
  refine ql (.bool false) (by kernel_rfl) (by kernel_rfl) ?_
  refine wpList_nil ?_
  refine x_then ?_
  refine wp_seq ?_
  refine wp_region_lit ?_
  refine ql (.int .i32 x) (by kernel_rfl) (by kernel_rfl) ?_
  refine qc (f := 61) (args := #[.int .i32 x]) (by kernel_rfl) (R_call #[.int .i32 x] Tryd.func61 (by kernel_rfl) (by kernel_rfl) (by kernel_rfl)) ?_
  refine (cnan x _).mono ?_
  rintro e W1 ⟨rfl, H_⟩
  refine ⟨_, rfl, ?_⟩
  replace HS : St W (owns []) W1 [] := HS.join (F := []) (G := []) H_
  clear H_
  refine ql (.bool false) (by kernel_rfl) (by kernel_rfl) ?_
  refine qln (by kernel_rfl) ?_
  refine qln (by kernel_rfl) ?_
  refine qln (by kernel_rfl) ?_
  refine ql (.bool false) (by kernel_rfl) (by kernel_rfl) ?_
  refine ql (.bool false) (by kernel_rfl) (by kernel_rfl) ?_
  refine ql (.int .i32 x) (by kernel_rfl) (by kernel_rfl) ?_
  refine ql (.int .i32 y) (by kernel_rfl) (by kernel_rfl) ?_
  by_cases hc2 : x < y
  · skip
    refine ql (.bool true) (by kernel_rfl) (R_bool (p := x < y) (by kernel_rfl) (hc2)) ?_
    refine ql (.bool true) (by kernel_rfl) (by kernel_rfl) ?_
    refine ql (.bool true) (by kernel_rfl) (by kernel_rfl) ?_
    refine wpList_nil ?_
    refine x_then ?_
    refine wp_ret ?_
    refine ret_ (.bool true) (by kernel_rfl) ?_
    exact ⟨by rw [decide_eq_true hc2], HS⟩
  · skip
    refine ql (.bool false) (by kernel_rfl) (R_nbool (p := x < y) (by kernel_rfl) (hc2)) ?_
    refine ql (.bool false) (by kernel_rfl) (by kernel_rfl) ?_
    refine ql (.bool false) (by kernel_rfl) (by kernel_rfl) ?_
    refine wpList_nil ?_
    refine x_then ?_
    refine wp_ret ?_
    refine ret_ (.bool false) (by kernel_rfl) ?_
    exact ⟨by rw [decide_eq_false hc2], HS⟩

set_option maxRecDepth 100000 in
set_option maxHeartbeats 1000000 in
theorem sbs (A : Option Addr) (c : Nat) (L : List Int) (x : Int) (W : World) (hr : Rd W A (ci .i32 L)) (hl : L.length ≤ 100000) (hs : L.Pairwise (· < ·)) : Calls Tryd.prog 54 #[.slice A L.length c, .int .i32 x] W fun e W' => e = .returned (.tuple #[.int .i64 (rk L x), .bool (decide (x ∈ L))]) ∧ St W (owns []) W' [] := by
  have HS : St W (owns []) W [] := St.start W _
  refine calls_enter ((.slice A L.length c) :: (.int .i32 x) :: undef :: undef :: undef :: undef :: undef :: undef :: undef :: undef :: undef :: undef :: undef :: undef :: undef :: undef :: undef :: undef :: undef :: undef :: undef :: undef :: undef :: undef :: undef :: undef :: undef :: undef :: undef :: undef :: undef :: undef :: undef :: undef :: undef :: undef :: undef :: undef :: undef :: undef :: undef :: undef :: undef :: undef :: undef :: undef :: undef :: undef :: undef :: undef :: undef :: undef :: undef :: undef :: []) Tryd.func54 rfl (by kernel_rfl) ?_
  refine wp_seq ?_
  refine wp_region_lit ?_
  refine ql (.int .i64 0) (by kernel_rfl) (by kernel_rfl) ?_
  refine ql (.bool false) (by kernel_rfl) (by kernel_rfl) ?_
  refine wpList_nil ?_
  refine x_then ?_
  refine wp_seq ?_
  refine wp_region_lit ?_
  refine ql (.slice A L.length c) (by kernel_rfl) (by kernel_rfl) ?_
  refine ql (.int .i64 (L.length : Int)) (by kernel_rfl) (by kernel_rfl) ?_
  refine ql (.int .i64 (L.length : Int)) (by kernel_rfl) (by kernel_rfl) ?_
  refine wpList_nil ?_
  refine x_then ?_
  refine wp_seq ?_
  refine wp_region_lit ?_
  refine ql (.int .i64 (L.length : Int)) (by kernel_rfl) (by kernel_rfl) ?_
  refine ql (.int .i64 0) (by kernel_rfl) (by kernel_rfl) ?_
  refine ql (.int .i64 (L.length : Int)) (by kernel_rfl) (by kernel_rfl) ?_
  refine wpList_nil ?_
  refine x_then ?_
  refine wp_seq ?_
  refine wp_block ?_
  refine wp_loop_ghost (fun kq a' w' => ∃ (J1 : Nat → Value) (i : Int) (j : Int) , a' = Fr ((.slice A L.length c) :: (.int .i32 x) :: undef :: undef :: (.int .i64 0) :: (.bool false) :: (.int .i64 (L.length : Int)) :: (.int .i64 i) :: (.int .i64 j) :: ((J1 9)) :: (.slice A L.length c) :: (.int .i64 (L.length : Int)) :: (.int .i64 (L.length : Int)) :: ((J1 13)) :: ((J1 14)) :: ((J1 15)) :: ((J1 16)) :: ((J1 17)) :: ((J1 18)) :: ((J1 19)) :: ((J1 20)) :: ((J1 21)) :: ((J1 22)) :: ((J1 23)) :: ((J1 24)) :: ((J1 25)) :: ((J1 26)) :: ((J1 27)) :: ((J1 28)) :: ((J1 29)) :: ((J1 30)) :: undef :: undef :: undef :: undef :: undef :: undef :: undef :: undef :: undef :: undef :: undef :: undef :: undef :: undef :: undef :: undef :: undef :: undef :: undef :: undef :: undef :: undef :: undef :: []) ∧ kq = ((j).toNat - (i).toNat) ∧ (BsP L x i j) ∧ St W (owns []) w' []) (((L.length : Int)).toNat - ((0 : Int)).toNat) ⟨(fun k_ : Nat => List.getD ((.slice A L.length c) :: (.int .i32 x) :: undef :: undef :: (.int .i64 0) :: (.bool false) :: (.int .i64 (L.length : Int)) :: (.int .i64 0) :: (.int .i64 (L.length : Int)) :: undef :: (.slice A L.length c) :: (.int .i64 (L.length : Int)) :: (.int .i64 (L.length : Int)) :: undef :: undef :: undef :: undef :: undef :: undef :: undef :: undef :: undef :: undef :: undef :: undef :: undef :: undef :: undef :: undef :: undef :: undef :: undef :: undef :: undef :: undef :: undef :: undef :: undef :: undef :: undef :: undef :: undef :: undef :: undef :: undef :: undef :: undef :: undef :: undef :: undef :: undef :: undef :: undef :: undef :: []) k_ undef), (0 : Int), (L.length : Int), congrArg Fr (by kernel_rfl), rfl, bs_start L x, HS⟩ ?_
  clear HS
  intro kq2 a' W3 hrel
  obtain ⟨J1, i, j, rfl, hk, hP, HS⟩ := hrel
  obtain ⟨hp1, hp2, hp3, _, _⟩ := id hP
  refine wp_seq ?_
  refine wp_seq ?_
  refine wp_region_lit ?_
  refine ql (.int .i64 i) (by kernel_rfl) (by kernel_rfl) ?_
  refine ql (.int .i64 j) (by kernel_rfl) (by kernel_rfl) ?_
  by_cases hc4 : i < j
  · skip
    refine ql (.bool true) (by kernel_rfl) (R_bool (p := i < j) (by kernel_rfl) (hc4)) ?_
    refine wpList_nil ?_
    refine x_then ?_
    refine wp_cond_true (by kernel_rfl) ?_
    refine wp_skip ?_
    refine x_then ?_
    refine wp_block ?_
    refine wp_seq ?_
    have hm := bs_mid hP.1 (by assumption)
    refine wp_region_lit ?_
    refine ql (.int .i64 i) (by kernel_rfl) (by kernel_rfl) ?_
    refine ql (.int .i64 j) (by kernel_rfl) (by kernel_rfl) ?_
    refine ql (.int .i64 (i + j)) (by kernel_rfl) (R_int (by kernel_rfl) (w64 (by omega))) ?_
    refine ql (.int .u64 (i + j)) (by kernel_rfl) (R_int (by kernel_rfl) (wu64 (by omega))) ?_
    refine ql (.int .u64 ((i + j) / 2)) (by kernel_rfl) (R_eq (R_shr (i := i + j) (j := 1) (k2 := .u64) (by kernel_rfl) (by kernel_rfl) ⟨by omega, by omega⟩ (by omega) (by omega)) (by rw [shr1 (by omega)])) ?_
    refine ql (.int .i64 ((i + j) / 2)) (by kernel_rfl) (R_int (by kernel_rfl) (w64 (by omega))) ?_
    refine ql (.int .i64 ((i + j) / 2)) (by kernel_rfl) (by kernel_rfl) ?_
    refine wpList_nil ?_
    refine x_then ?_
    refine wp_seq ?_
    refine wp_region_lit ?_
    refine ql (.slice A L.length c) (by kernel_rfl) (by kernel_rfl) ?_
    refine ql (.int .i64 ((i + j) / 2)) (by kernel_rfl) (by kernel_rfl) ?_
    obtain ⟨ad5, rfl⟩ := Rd.isSome_ hr (by rw [ci_len]; omega)
    refine ql (.pointer (some (ad5.add ((i + j) / 2).toNat))) (by kernel_rfl) (R_indexA1 (k := .i64) (p := ad5) (n := L.length) (c := c) (i := (i + j) / 2) (by kernel_rfl) (by kernel_rfl) Tryd.underlying72 (by kernel_rfl) (by omega) (by omega)) ?_
    refine ql (.int .i32 (rdI L ((i + j) / 2))) (by kernel_rfl) (R_load (p := ad5.add ((i + j) / 2).toNat) (by kernel_rfl) (by kernel_rfl) (by kernel_rfl) (HS.old0 (hr.at_ (ci_rd (i := (i + j) / 2) (by omega) (by omega))))) ?_
    refine ql (.int .i32 x) (by kernel_rfl) (by kernel_rfl) ?_
    refine qc (f := 58) (args := #[.int .i32 (rdI L ((i + j) / 2)), .int .i32 x]) (by kernel_rfl) (R_call #[.int .i32 (rdI L ((i + j) / 2)), .int .i32 x] Tryd.func58 (by kernel_rfl) (by kernel_rfl) (by kernel_rfl)) ?_
    by_cases hv : rdI L ((i + j) / 2) < x
    · skip
      have hdx : decide (rdI L ((i + j) / 2) < x) = true := decide_eq_true hv
      refine (cless (rdI L ((i + j) / 2)) x _).mono ?_
      rintro e W6 ⟨rfl, H_⟩
      rw [hdx]
      refine ⟨_, rfl, ?_⟩
      replace HS : St W (owns []) W6 [] := HS.join (F := []) (G := []) H_
      clear H_
      refine wpList_nil ?_
      refine x_then ?_
      refine wp_cond_true (by kernel_rfl) ?_
      refine wp_region_lit ?_
      refine ql (.int .i64 ((i + j) / 2)) (by kernel_rfl) (by kernel_rfl) ?_
      refine ql (.int .i64 (((i + j) / 2) + 1)) (by kernel_rfl) (R_int (by kernel_rfl) (w64 (by omega))) ?_
      refine ql (.int .i64 (((i + j) / 2) + 1)) (by kernel_rfl) (by kernel_rfl) ?_
      refine wpList_nil ?_
      refine x_inb ?_
      refine x_then ?_
      exact ⟨(j).toNat - (((i + j) / 2) + 1).toNat, by omega, (fun k_ : Nat => List.getD ((.slice (some ad5) L.length c) :: (.int .i32 x) :: undef :: undef :: (.int .i64 0) :: (.bool false) :: (.int .i64 (L.length : Int)) :: (.int .i64 (((i + j) / 2) + 1)) :: (.int .i64 j) :: (.int .i64 ((i + j) / 2)) :: (.slice (some ad5) L.length c) :: (.int .i64 (L.length : Int)) :: (.int .i64 (L.length : Int)) :: (.int .i64 i) :: (.int .i64 j) :: (.bool true) :: (.int .i64 i) :: (.int .i64 j) :: (.int .i64 (i + j)) :: (.int .u64 (i + j)) :: (.int .u64 ((i + j) / 2)) :: (.int .i64 ((i + j) / 2)) :: (.slice (some ad5) L.length c) :: (.int .i64 ((i + j) / 2)) :: (.pointer (some (ad5.add ((i + j) / 2).toNat))) :: (.int .i32 (rdI L ((i + j) / 2))) :: (.int .i32 x) :: (.bool true) :: (.int .i64 ((i + j) / 2)) :: (.int .i64 (((i + j) / 2) + 1)) :: ((J1 30)) :: undef :: undef :: undef :: undef :: undef :: undef :: undef :: undef :: undef :: undef :: undef :: undef :: undef :: undef :: undef :: undef :: undef :: undef :: undef :: undef :: undef :: undef :: undef :: []) k_ undef), ((i + j) / 2) + 1, j, congrArg Fr (by kernel_rfl), rfl, (bs_right hP hs hm.1 hm.2 hv), HS⟩
    · skip
      have hdx : decide (rdI L ((i + j) / 2) < x) = false := decide_eq_false hv
      refine (cless (rdI L ((i + j) / 2)) x _).mono ?_
      rintro e W7 ⟨rfl, H_⟩
      rw [hdx]
      refine ⟨_, rfl, ?_⟩
      replace HS : St W (owns []) W7 [] := HS.join (F := []) (G := []) H_
      clear H_
      refine wpList_nil ?_
      refine x_then ?_
      refine wp_cond_false (by kernel_rfl) ?_
      refine wp_region_lit ?_
      refine ql (.int .i64 ((i + j) / 2)) (by kernel_rfl) (by kernel_rfl) ?_
      refine ql (.int .i64 ((i + j) / 2)) (by kernel_rfl) (by kernel_rfl) ?_
      refine wpList_nil ?_
      refine x_inb ?_
      refine x_then ?_
      exact ⟨((i + j) / 2).toNat - (i).toNat, by omega, (fun k_ : Nat => List.getD ((.slice (some ad5) L.length c) :: (.int .i32 x) :: undef :: undef :: (.int .i64 0) :: (.bool false) :: (.int .i64 (L.length : Int)) :: (.int .i64 i) :: (.int .i64 ((i + j) / 2)) :: (.int .i64 ((i + j) / 2)) :: (.slice (some ad5) L.length c) :: (.int .i64 (L.length : Int)) :: (.int .i64 (L.length : Int)) :: (.int .i64 i) :: (.int .i64 j) :: (.bool true) :: (.int .i64 i) :: (.int .i64 j) :: (.int .i64 (i + j)) :: (.int .u64 (i + j)) :: (.int .u64 ((i + j) / 2)) :: (.int .i64 ((i + j) / 2)) :: (.slice (some ad5) L.length c) :: (.int .i64 ((i + j) / 2)) :: (.pointer (some (ad5.add ((i + j) / 2).toNat))) :: (.int .i32 (rdI L ((i + j) / 2))) :: (.int .i32 x) :: (.bool false) :: ((J1 28)) :: ((J1 29)) :: (.int .i64 ((i + j) / 2)) :: undef :: undef :: undef :: undef :: undef :: undef :: undef :: undef :: undef :: undef :: undef :: undef :: undef :: undef :: undef :: undef :: undef :: undef :: undef :: undef :: undef :: undef :: undef :: []) k_ undef), i, (i + j) / 2, congrArg Fr (by kernel_rfl), rfl, (bs_left hP hs hm.1 hm.2 hv), HS⟩
  · skip
    refine ql (.bool false) (by kernel_rfl) (R_nbool (p := i < j) (by kernel_rfl) (hc4)) ?_
    refine wpList_nil ?_
    refine x_then ?_
    refine wp_cond_false (by kernel_rfl) ?_
    refine wp_exit ?_
    refine x_thenE ?_
    refine x_thenE ?_
    refine x_hit ?_
    refine x_then ?_
    refine wp_seq ?_
    obtain rfl : i = j := by omega
    refine wp_region_lit ?_
    refine ql (.int .i64 i) (by kernel_rfl) (by kernel_rfl) ?_
    refine ql (.int .i64 i) (by kernel_rfl) (by kernel_rfl) ?_
    refine ql (.int .i64 (L.length : Int)) (by kernel_rfl) (by kernel_rfl) ?_
    by_cases hc8 : i < (L.length : Int)
    · skip
      refine ql (.bool true) (by kernel_rfl) (R_bool (p := i < (L.length : Int)) (by kernel_rfl) (hc8)) ?_
      refine ql (.bool true) (by kernel_rfl) (by kernel_rfl) ?_
      refine ql (.slice A L.length c) (by kernel_rfl) (by kernel_rfl) ?_
      refine ql (.int .i64 i) (by kernel_rfl) (by kernel_rfl) ?_
      obtain ⟨ad9, rfl⟩ := Rd.isSome_ hr (by rw [ci_len]; omega)
      refine ql (.pointer (some (ad9.add i.toNat))) (by kernel_rfl) (R_indexA1 (k := .i64) (p := ad9) (n := L.length) (c := c) (i := i) (by kernel_rfl) (by kernel_rfl) Tryd.underlying72 (by kernel_rfl) (by omega) (by omega)) ?_
      refine ql (.int .i32 (rdI L i)) (by kernel_rfl) (R_load (p := ad9.add i.toNat) (by kernel_rfl) (by kernel_rfl) (by kernel_rfl) (HS.old0 (hr.at_ (ci_rd (i := i) (by omega) (by omega))))) ?_
      refine ql (.int .i32 x) (by kernel_rfl) (by kernel_rfl) ?_
      by_cases hc10 : (rdI L i) = x
      · skip
        refine ql (.bool true) (by kernel_rfl) (R_beq (b := (rdI L i == x)) (by kernel_rfl) (beq_t (hc10))) ?_
        refine ql (.bool true) (by kernel_rfl) (by kernel_rfl) ?_
        refine qln (by kernel_rfl) ?_
        refine qln (by kernel_rfl) ?_
        refine qln (by kernel_rfl) ?_
        refine qln (by kernel_rfl) ?_
        refine qln (by kernel_rfl) ?_
        refine qln (by kernel_rfl) ?_
        refine qln (by kernel_rfl) ?_
        refine qln (by kernel_rfl) ?_
        refine qln (by kernel_rfl) ?_
        refine ql (.bool true) (by kernel_rfl) (by kernel_rfl) ?_
        refine ql (.bool true) (by kernel_rfl) (by kernel_rfl) ?_
        refine ql (.int .i64 i) (by kernel_rfl) (by kernel_rfl) ?_
        refine ql (.bool true) (by kernel_rfl) (by kernel_rfl) ?_
        refine wpList_nil ?_
        refine x_then ?_
        refine wp_ret ?_
        refine ret_ (.tuple #[.int .i64 i, .bool true]) (by kernel_rfl) ?_
        exact ⟨by rw [rk_at hP, decide_eq_true ((bs_has hP hs (by omega)).2 hc10)], HS⟩
      · skip
        refine ql (.bool false) (by kernel_rfl) (R_beq (b := (rdI L i == x)) (by kernel_rfl) (beq_f (hc10))) ?_
        refine ql (.bool false) (by kernel_rfl) (by kernel_rfl) ?_
        refine ql (.slice (some ad9) L.length c) (by kernel_rfl) (by kernel_rfl) ?_
        refine ql (.int .i64 i) (by kernel_rfl) (by kernel_rfl) ?_
        refine ql (.pointer (some (ad9.add i.toNat))) (by kernel_rfl) (R_indexA1 (k := .i64) (p := ad9) (n := L.length) (c := c) (i := i) (by kernel_rfl) (by kernel_rfl) Tryd.underlying72 (by kernel_rfl) (by omega) (by omega)) ?_
        refine ql (.int .i32 (rdI L i)) (by kernel_rfl) (R_load (p := ad9.add i.toNat) (by kernel_rfl) (by kernel_rfl) (by kernel_rfl) (HS.old0 (hr.at_ (ci_rd (i := i) (by omega) (by omega))))) ?_
        refine qc (f := 59) (args := #[.int .i32 (rdI L i)]) (by kernel_rfl) (R_call #[.int .i32 (rdI L i)] Tryd.func59 (by kernel_rfl) (by kernel_rfl) (by kernel_rfl)) ?_
        refine (snan (rdI L i) _).mono ?_
        rintro e W11 ⟨rfl, H_⟩
        refine ⟨_, rfl, ?_⟩
        replace HS : St W (owns []) W11 [] := HS.join (F := []) (G := []) H_
        clear H_
        refine ql (.bool false) (by kernel_rfl) (by kernel_rfl) ?_
        refine qln (by kernel_rfl) ?_
        refine qln (by kernel_rfl) ?_
        refine ql (.bool false) (by kernel_rfl) (by kernel_rfl) ?_
        refine ql (.bool false) (by kernel_rfl) (by kernel_rfl) ?_
        refine ql (.bool false) (by kernel_rfl) (by kernel_rfl) ?_
        refine ql (.int .i64 i) (by kernel_rfl) (by kernel_rfl) ?_
        refine ql (.bool false) (by kernel_rfl) (by kernel_rfl) ?_
        refine wpList_nil ?_
        refine x_then ?_
        refine wp_ret ?_
        refine ret_ (.tuple #[.int .i64 i, .bool false]) (by kernel_rfl) ?_
        exact ⟨by rw [rk_at hP, decide_eq_false (fun h_ => hc10 ((bs_has hP hs (by omega)).1 h_))], HS⟩
    · skip
      refine ql (.bool false) (by kernel_rfl) (R_nbool (p := i < (L.length : Int)) (by kernel_rfl) (hc8)) ?_
      refine ql (.bool false) (by kernel_rfl) (by kernel_rfl) ?_
      refine qln (by kernel_rfl) ?_
      refine qln (by kernel_rfl) ?_
      refine qln (by kernel_rfl) ?_
      refine qln (by kernel_rfl) ?_
      refine qln (by kernel_rfl) ?_
      refine qln (by kernel_rfl) ?_
      refine qln (by kernel_rfl) ?_
      refine qln (by kernel_rfl) ?_
      refine qln (by kernel_rfl) ?_
      refine qln (by kernel_rfl) ?_
      refine qln (by kernel_rfl) ?_
      refine qln (by kernel_rfl) ?_
      refine qln (by kernel_rfl) ?_
      refine qln (by kernel_rfl) ?_
      refine qln (by kernel_rfl) ?_
      refine qln (by kernel_rfl) ?_
      refine qln (by kernel_rfl) ?_
      refine ql (.bool false) (by kernel_rfl) (by kernel_rfl) ?_
      refine ql (.int .i64 i) (by kernel_rfl) (by kernel_rfl) ?_
      refine ql (.bool false) (by kernel_rfl) (by kernel_rfl) ?_
      refine wpList_nil ?_
      refine x_then ?_
      refine wp_ret ?_
      refine ret_ (.tuple #[.int .i64 i, .bool false]) (by kernel_rfl) ?_
      exact ⟨by rw [rk_at hP, decide_eq_false (bs_hasN hP hc8)], HS⟩


set_option maxRecDepth 100000 in
set_option maxHeartbeats 1000000 in
theorem sins_end (A : Option Addr) (c gv : Nat) (L : List Int) (x : Int) (W : World) (M : Nat → Prop) (HS : St W M W [row A L.length c (ci .i32 L) 21 1, row (some ⟨gv, 0, none⟩) 1 1 (ci .i32 ([x])) 21 1]) (hl : L.length ≤ 100000) : Calls Tryd.prog 47 #[.slice A L.length c, .int .i64 (L.length : Int), .slice (some ⟨gv, 0, none⟩) 1 1] W fun e W' => ∃ A' c', e = .returned (.slice A' (insA L L.length x).length c') ∧ St W M W' [row A' (insA L L.length x).length c' (ci .i32 (insA L L.length x)) 21 1] := by
  refine calls_enter ((.slice A L.length c) :: (.int .i64 (L.length : Int)) :: (.slice (some ⟨gv, 0, none⟩) 1 1) :: undef :: undef :: undef :: undef :: undef :: undef :: undef :: undef :: undef :: undef :: undef :: undef :: undef :: undef :: undef :: undef :: undef :: undef :: undef :: undef :: undef :: undef :: undef :: undef :: undef :: undef :: undef :: undef :: undef :: undef :: undef :: undef :: undef :: undef :: undef :: undef :: undef :: undef :: undef :: undef :: undef :: undef :: undef :: undef :: undef :: undef :: undef :: undef :: undef :: undef :: undef :: undef :: undef :: undef :: undef :: undef :: undef :: undef :: undef :: undef :: undef :: undef :: undef :: undef :: undef :: undef :: undef :: undef :: undef :: undef :: undef :: undef :: undef :: undef :: undef :: undef :: undef :: undef :: undef :: undef :: undef :: undef :: undef :: undef :: undef :: undef :: undef :: undef :: undef :: undef :: undef :: undef :: []) Tryd.func47 rfl (by kernel_rfl) ?_
  refine wp_seq ?_
  refine wp_region_lit ?_
  refine ql (.slice none 0 0) (by kernel_rfl) (by kernel_rfl) ?_
  refine wpList_nil ?_
  refine x_then ?_
  refine wp_seq ?_
  refine wp_region_lit ?_
  refine ql (.slice A L.length c) (by kernel_rfl) (by kernel_rfl) ?_
  refine ql (.int .i64 (L.length : Int)) (by kernel_rfl) (by kernel_rfl) ?_
  refine ql (.slice (cutA A c L.length 1) (L.length - L.length) (c - L.length)) (by kernel_rfl) (R_sliceL (k := .i64) (A := A) (n := L.length) (c := c) (i := (L.length : Int)) (by kernel_rfl) (by kernel_rfl) Tryd.underlying72 (by kernel_rfl) (by omega) (by omega)) ?_
  refine wpList_nil ?_
  refine x_then ?_
  refine wp_seq ?_
  refine wp_region_lit ?_
  refine ql (.slice (some ⟨gv, 0, none⟩) 1 1) (by kernel_rfl) (by kernel_rfl) ?_
  refine ql (.int .i64 1) (by kernel_rfl) (by kernel_rfl) ?_
  refine ql (.int .i64 1) (by kernel_rfl) (by kernel_rfl) ?_
  refine wpList_nil ?_
  refine x_then ?_
  refine wp_seq ?_
  refine wp_seq ?_
  refine wp_region_lit ?_
  refine ql (.int .i64 1) (by kernel_rfl) (by kernel_rfl) ?_
  refine ql (.bool false) (by kernel_rfl) (R_beq (b := ((1 : Int) == 0)) (by kernel_rfl) (by decide)) ?_
  refine wpList_nil ?_
  refine x_then ?_
  refine wp_cond_false (by kernel_rfl) ?_
  refine wp_skip ?_
  refine x_then ?_
  refine wp_seq ?_
  refine wp_region_lit ?_
  refine ql (.slice A L.length c) (by kernel_rfl) (by kernel_rfl) ?_
  refine ql (.int .i64 (L.length : Int)) (by kernel_rfl) (by kernel_rfl) ?_
  refine ql (.int .i64 (L.length : Int)) (by kernel_rfl) (by kernel_rfl) ?_
  refine wpList_nil ?_
  refine x_then ?_
  refine wp_seq ?_
  refine wp_seq ?_
  refine wp_region_lit ?_
  refine ql (.int .i64 (L.length : Int)) (by kernel_rfl) (by kernel_rfl) ?_
  refine ql (.int .i64 (L.length : Int)) (by kernel_rfl) (by kernel_rfl) ?_
  refine ql (.bool true) (by kernel_rfl) (R_beq (b := ((L.length : Int) == (L.length : Int))) (by kernel_rfl) (beq_t (by omega))) ?_
  refine wpList_nil ?_
  refine x_then ?_
  refine wp_cond_true (by kernel_rfl) ?_
  refine wp_seq ?_
  refine wp_region_lit ?_
  refine ql (.slice A L.length c) (by kernel_rfl) (by kernel_rfl) ?_
  refine ql (.slice (some ⟨gv, 0, none⟩) 1 1) (by kernel_rfl) (by kernel_rfl) ?_
  obtain ⟨xs4, xs4_⟩ : ∃ z_ : List Int, z_ = L ++ ([x]) := ⟨_, rfl⟩
  have xs4l : xs4.length = L.length + 1 := by rw [xs4_, List.length_append] <;> (try simp only [List.length_cons, List.length_nil]) <;> omega
  refine ka1 HS 0 rfl (Src.of_row HS (i := 1) rfl ci_one) [.int .i32 0] 4 xs4.length (ci .i32 xs4) (by omega) (by rw [xs4_, ci_app]) (by kernel_rfl) (by kernel_rfl) (by kernel_rfl) Tryd.underlying72 (by kernel_rfl) (by kernel_rfl) (by kernel_rfl) (by kernel_rfl) (by decide) (by omega) (by omega) ?_
  intro A1 c2 W3 H_
  replace HS : St W M W3 [row A1 xs4.length c2 (ci .i32 xs4) 21 1, row (some ⟨gv, 0, none⟩) 1 1 (ci .i32 ([x])) 21 1] := H_
  clear H_
  refine ql (.slice A1 xs4.length c2) (by kernel_rfl) (by kernel_rfl) ?_
  refine wpList_nil ?_
  refine x_then ?_
  refine wp_ret ?_
  refine x_thenR ?_
  refine ret_ (.slice A1 xs4.length c2) (by kernel_rfl) ?_
  replace HS : St W M W3 [row A1 xs4.length c2 (ci .i32 xs4) 21 1] := St.tail (F := [row (some ⟨gv, 0, none⟩) 1 1 (ci .i32 ([x])) 21 1]) (HS.perm (perm_ [1, 0] (by kernel_rfl) rfl))
  have hq : xs4 = insA L L.length x := by rw [xs4_]; unfold insA; simp
  rw [← hq]
  exact ⟨_, _, rfl, HS⟩

set_option maxRecDepth 100000 in
set_option maxHeartbeats 1000000 in
theorem sins_mid (g c gv k : Nat) (L : List Int) (sp : List Value) (x : Int) (W : World) (M : Nat → Prop) (HS : St W M W [blk g (ci .i32 L ++ sp) 21, blk gv [.int .i32 x] 21]) (hl : L.length ≤ 100000) (hc : L.length + sp.length = c) (hm : c ≤ maxLen) (hk : k < L.length) : Calls Tryd.prog 47 #[.slice (some ⟨g, 0, none⟩) L.length c, .int .i64 (k : Int), .slice (some ⟨gv, 0, none⟩) 1 1] W fun e W' => ∃ A' c', e = .returned (.slice A' (insA L k x).length c') ∧ St W M W' [row A' (insA L k x).length c' (ci .i32 (insA L k x)) 21 1] := by
  have hm63 : maxLen = 9223372036854775807 := rfl
  have hcl : (ci .i32 L).length = L.length := ci_len _ _
  have hcc : (ci .i32 L ++ sp).length = c := by rw [List.length_append, hcl]; exact hc
  refine calls_enter ((.slice (some ⟨g, 0, none⟩) L.length c) :: (.int .i64 (k : Int)) :: (.slice (some ⟨gv, 0, none⟩) 1 1) :: undef :: undef :: undef :: undef :: undef :: undef :: undef :: undef :: undef :: undef :: undef :: undef :: undef :: undef :: undef :: undef :: undef :: undef :: undef :: undef :: undef :: undef :: undef :: undef :: undef :: undef :: undef :: undef :: undef :: undef :: undef :: undef :: undef :: undef :: undef :: undef :: undef :: undef :: undef :: undef :: undef :: undef :: undef :: undef :: undef :: undef :: undef :: undef :: undef :: undef :: undef :: undef :: undef :: undef :: undef :: undef :: undef :: undef :: undef :: undef :: undef :: undef :: undef :: undef :: undef :: undef :: undef :: undef :: undef :: undef :: undef :: undef :: undef :: undef :: undef :: undef :: undef :: undef :: undef :: undef :: undef :: undef :: undef :: undef :: undef :: undef :: undef :: undef :: undef :: undef :: undef :: undef :: []) Tryd.func47 rfl (by kernel_rfl) ?_
  refine wp_seq ?_
  refine wp_region_lit ?_
  refine ql (.slice none 0 0) (by kernel_rfl) (by kernel_rfl) ?_
  refine wpList_nil ?_
  refine x_then ?_
  refine wp_seq ?_
  refine wp_region_lit ?_
  refine ql (.slice (some ⟨g, 0, none⟩) L.length c) (by kernel_rfl) (by kernel_rfl) ?_
  refine ql (.int .i64 (k : Int)) (by kernel_rfl) (by kernel_rfl) ?_
  refine ql (.slice (some ⟨g, k, none⟩) (L.length - (k)) (c - (k))) (by kernel_rfl) (R_eq (R_sliceL (k := .i64) (A := (some ⟨g, 0, none⟩)) (n := L.length) (c := c) (i := (k : Int)) (by kernel_rfl) (by kernel_rfl) Tryd.underlying72 (by kernel_rfl) (by omega) (by omega)) (by rw [show ((k : Int)).toNat = k from by omega, cutA_at (by omega)])) ?_
  refine wpList_nil ?_
  refine x_then ?_
  refine wp_seq ?_
  refine wp_region_lit ?_
  refine ql (.slice (some ⟨gv, 0, none⟩) 1 1) (by kernel_rfl) (by kernel_rfl) ?_
  refine ql (.int .i64 1) (by kernel_rfl) (by kernel_rfl) ?_
  refine ql (.int .i64 1) (by kernel_rfl) (by kernel_rfl) ?_
  refine wpList_nil ?_
  refine x_then ?_
  refine wp_seq ?_
  refine wp_seq ?_
  refine wp_region_lit ?_
  refine ql (.int .i64 1) (by kernel_rfl) (by kernel_rfl) ?_
  refine ql (.bool false) (by kernel_rfl) (R_beq (b := ((1 : Int) == 0)) (by kernel_rfl) (by decide)) ?_
  refine wpList_nil ?_
  refine x_then ?_
  refine wp_cond_false (by kernel_rfl) ?_
  refine wp_skip ?_
  refine x_then ?_
  refine wp_seq ?_
  refine wp_region_lit ?_
  refine ql (.slice (some ⟨g, 0, none⟩) L.length c) (by kernel_rfl) (by kernel_rfl) ?_
  refine ql (.int .i64 (L.length : Int)) (by kernel_rfl) (by kernel_rfl) ?_
  refine ql (.int .i64 (L.length : Int)) (by kernel_rfl) (by kernel_rfl) ?_
  refine wpList_nil ?_
  refine x_then ?_
  refine wp_seq ?_
  refine wp_seq ?_
  refine wp_region_lit ?_
  refine ql (.int .i64 (k : Int)) (by kernel_rfl) (by kernel_rfl) ?_
  refine ql (.int .i64 (L.length : Int)) (by kernel_rfl) (by kernel_rfl) ?_
  refine ql (.bool false) (by kernel_rfl) (R_beq (b := ((k : Int) == (L.length : Int))) (by kernel_rfl) (beq_f (by omega))) ?_
  refine wpList_nil ?_
  refine x_then ?_
  refine wp_cond_false (by kernel_rfl) ?_
  refine wp_skip ?_
  refine x_then ?_
  refine wp_seq ?_
  refine wp_seq ?_
  refine wp_region_lit ?_
  refine ql (.int .i64 (L.length : Int)) (by kernel_rfl) (by kernel_rfl) ?_
  refine ql (.int .i64 1) (by kernel_rfl) (by kernel_rfl) ?_
  refine ql (.int .i64 ((L.length : Int) + 1)) (by kernel_rfl) (R_int (by kernel_rfl) (w64 (by omega))) ?_
  refine ql (.slice (some ⟨g, 0, none⟩) L.length c) (by kernel_rfl) (by kernel_rfl) ?_
  refine ql (.int .i64 (c : Int)) (by kernel_rfl) (by kernel_rfl) ?_
  by_cases hc1 : ((L.length : Int) + 1) > (c : Int)
  · skip
    refine ql (.bool true) (by kernel_rfl) (R_bool (p := ((L.length : Int) + 1) > (c : Int)) (by kernel_rfl) (hc1)) ?_
    refine wpList_nil ?_
    refine x_then ?_
    refine wp_cond_true (by kernel_rfl) ?_
    refine wp_seq ?_
    refine wp_region_lit ?_
    refine ql (.slice (some ⟨g, 0, none⟩) L.length c) (by kernel_rfl) (by kernel_rfl) ?_
    refine ql (.int .i64 (k : Int)) (by kernel_rfl) (by kernel_rfl) ?_
    refine ql (.slice (some ⟨g, 0, none⟩) k c) (by kernel_rfl) (R_eq (R_sliceH (z := 1) (e := 21) (k := .i64) (A := (some ⟨g, 0, none⟩)) (n := L.length) (c := c) (i := (k : Int)) (by kernel_rfl) (by kernel_rfl) Tryd.underlying72 (by kernel_rfl) (by omega) (by omega)) (by rw [show ((k : Int)).toNat = k from by omega])) ?_
    refine ql (.int .i64 (L.length : Int)) (by kernel_rfl) (by kernel_rfl) ?_
    refine ql (.int .i64 1) (by kernel_rfl) (by kernel_rfl) ?_
    refine ql (.int .i64 ((L.length : Int) + 1)) (by kernel_rfl) (R_int (by kernel_rfl) (w64 (by omega))) ?_
    refine ql (.int .i64 (k : Int)) (by kernel_rfl) (by kernel_rfl) ?_
    refine ql (.int .i64 (((L.length : Int) + 1) - (k : Int))) (by kernel_rfl) (R_int (by kernel_rfl) (w64 (by omega))) ?_
    refine kaz (n := k) (c := c) (k := (L.length + 1 - k)) (kn := .i64) (z := .int .i32 0) (by_ := 4) HS 0 rfl (by kernel_rfl) (by kernel_rfl) (k_eq (k := .i64) (m := ((L.length : Int) + 1) - (k : Int)) (by kernel_rfl) (by omega)) Tryd.underlying72 Tryd.underlying3 (by kernel_rfl) rfl (by kernel_rfl) (by kernel_rfl) (L.length + 1) (by omega) (by omega) (by omega) (by omega) (by omega) (by omega) ?_
    intro g2 c3 W4 hge hle H_
    replace HS : St W M W4 [blk g2 ((ci .i32 L ++ sp).take k ++ (List.replicate (L.length + 1 - k) (Value.int .i32 0) ++ List.replicate (c3 - (L.length + 1)) (Value.int .i32 0))) 21, blk g (ci .i32 L ++ sp) 21, blk gv [.int .i32 x] 21] := H_
    clear H_
    have hspn : sp = [] := List.eq_nil_of_length_eq_zero (by omega)
    have hZ : ((List.replicate (L.length + 1 - k) (Value.int .i32 0) ++ List.replicate (c3 - (L.length + 1)) (Value.int .i32 0))).length = c3 - k := by rw [List.length_append, List.length_replicate, List.length_replicate]; omega
    have htk : (ci .i32 L ++ sp).take k = (ci .i32 L).take k := List.take_append_of_le_length (by omega)
    rw [htk] at HS
    obtain ⟨B1, B2, hb1, hb2, hl1, hl2, ht2⟩ := grow_eq (C := ci .i32 L) (Z := (List.replicate (L.length + 1 - k) (Value.int .i32 0) ++ List.replicate (c3 - (L.length + 1)) (Value.int .i32 0))) (x := .int .i32 x) (K := k) (by omega) (by omega)
    have hB0 : ((ci .i32 L).take k ++ (List.replicate (L.length + 1 - k) (Value.int .i32 0) ++ List.replicate (c3 - (L.length + 1)) (Value.int .i32 0))).length = c3 := by rw [List.length_append, List.length_take, hZ]; omega
    refine ql (.slice (some ⟨g2, 0, none⟩) (L.length + 1) c3) (by kernel_rfl) (by kernel_rfl) ?_
    refine wpList_nil ?_
    refine x_then ?_
    refine wp_seq ?_
    refine wp_region_lit ?_
    refine ql (.slice (some ⟨g2, 0, none⟩) (L.length + 1) c3) (by kernel_rfl) (by kernel_rfl) ?_
    refine ql (.int .i64 (k : Int)) (by kernel_rfl) (by kernel_rfl) ?_
    refine ql (.slice (some ⟨g2, k, none⟩) ((L.length + 1) - (k)) (c3 - (k))) (by kernel_rfl) (R_eq (R_sliceL (k := .i64) (A := (some ⟨g2, 0, none⟩)) (n := (L.length + 1)) (c := c3) (i := (k : Int)) (by kernel_rfl) (by kernel_rfl) Tryd.underlying72 (by kernel_rfl) (by omega) (by omega)) (by rw [show ((k : Int)).toNat = k from by omega, cutA_at (by omega)])) ?_
    refine ql (.slice (some ⟨gv, 0, none⟩) 1 1) (by kernel_rfl) (by kernel_rfl) ?_
    refine kcpy (o := k) (n := ((L.length + 1) - (k))) (c := (c3 - (k))) (m := 1) (c2 := 1) (ad := ⟨gv, 0, none⟩) (xs := [.int .i32 x]) HS 0 rfl (by kernel_rfl) (by kernel_rfl) (by kernel_rfl) Tryd.underlying72 (by kernel_rfl) B1 (by simp only [List.length_singleton, Nat.min_def]; split <;> omega) (cells_at (fun j v hv => by rw [Nat.zero_add]; exact HS.cell (i := 2) rfl hv)) (by simp only [List.length_singleton]; omega) (one_ (by kernel_rfl)) hb1 ?_
    intro W5 H_
    replace HS : St W M W5 [blk g2 B1 21, blk g (ci .i32 L ++ sp) 21, blk gv [.int .i32 x] 21] := H_
    clear H_
    refine wpList_nil ?_
    refine x_then ?_
    refine wp_seq ?_
    refine rg_still HS 8 (by kernel_rfl) (by kernel_rfl) ?_
    intro W6 H_ HK_
    simp only [List.take_succ_cons, List.take_zero, List.drop_succ_cons, List.drop_zero]
    replace HS : St W M W6 [blk g2 B1 21, blk g (ci .i32 L ++ sp) 21, blk gv [.int .i32 x] 21] := H_
    clear H_
    clear HK_
    refine qs (.slice (some ⟨g2, 0, none⟩) (L.length + 1) c3) (by kernel_rfl) (by kernel_rfl) ?_
    refine qs (.int .i64 (k : Int)) (by kernel_rfl) (by kernel_rfl) ?_
    refine qs (.int .i64 1) (by kernel_rfl) (by kernel_rfl) ?_
    refine qs (.int .i64 ((k : Int) + 1)) (by kernel_rfl) (R_int (by kernel_rfl) (w64 (by omega))) ?_
    refine qs (.slice (some ⟨g2, k + 1, none⟩) ((L.length + 1) - (k + 1)) (c3 - (k + 1))) (by kernel_rfl) (R_eq (R_sliceL (k := .i64) (A := (some ⟨g2, 0, none⟩)) (n := (L.length + 1)) (c := c3) (i := (k : Int) + 1) (by kernel_rfl) (by kernel_rfl) Tryd.underlying72 (by kernel_rfl) (by omega) (by omega)) (by rw [show ((k : Int) + 1).toNat = k + 1 from by omega, cutA_at (by omega)])) ?_
    refine qs (.slice (some ⟨g, 0, none⟩) L.length c) (by kernel_rfl) (by kernel_rfl) ?_
    refine qs (.int .i64 (k : Int)) (by kernel_rfl) (by kernel_rfl) ?_
    refine qs (.slice (some ⟨g, k, none⟩) (L.length - (k)) (c - (k))) (by kernel_rfl) (R_eq (R_sliceL (k := .i64) (A := (some ⟨g, 0, none⟩)) (n := L.length) (c := c) (i := (k : Int)) (by kernel_rfl) (by kernel_rfl) Tryd.underlying72 (by kernel_rfl) (by omega) (by omega)) (by rw [show ((k : Int)).toNat = k from by omega, cutA_at (by omega)])) ?_
    refine wpStill_nil ?_
    refine kcpy (o := k + 1) (n := ((L.length + 1) - (k + 1))) (c := (c3 - (k + 1))) (m := (L.length - (k))) (c2 := (c - (k))) (ad := ⟨g, k, none⟩) (xs := (ci .i32 L).drop k) HS 0 rfl (by kernel_rfl) (by kernel_rfl) (by kernel_rfl) Tryd.underlying72 (by kernel_rfl) B2 (by rw [List.length_drop, hcl]; simp only [Nat.min_def]; split <;> omega) (cells_at (fun j v hv => HS.cell (i := 1) rfl (src_drop hv))) (by rw [List.length_drop, hcl]; omega) (fun v hv => ci_one v (List.mem_of_mem_drop hv)) hb2 ?_
    intro W7 H_
    replace HS : St W M W7 [blk g2 B2 21, blk g (ci .i32 L ++ sp) 21, blk gv [.int .i32 x] 21] := H_
    clear H_
    refine wpList_nil ?_
    refine x_then ?_
    refine wp_seq ?_
    refine wp_region_lit ?_
    refine ql (.slice (some ⟨g2, 0, none⟩) (L.length + 1) c3) (by kernel_rfl) (by kernel_rfl) ?_
    refine ql (.slice (some ⟨g2, 0, none⟩) (L.length + 1) c3) (by kernel_rfl) (by kernel_rfl) ?_
    refine wpList_nil ?_
    refine x_then ?_
    refine wp_ret ?_
    refine x_thenR ?_
    refine ret_ (.slice (some ⟨g2, 0, none⟩) (L.length + 1) c3) (by kernel_rfl) ?_
    replace HS : St W M W7 [blk g2 B2 21] := St.tail (F := [blk g (ci .i32 L ++ sp) 21, blk gv [.int .i32 x] 21]) (HS.perm (perm_ [1, 2, 0] (by kernel_rfl) rfl))
    have hil : (insA L k x).length = L.length + 1 := insA_len (by omega)
    replace HS := HS.closeRow (i := 0) rfl (L.length + 1) c3 (ci .i32 (insA L k x)) (by omega) (by rw [ci_insA, ← ht2, hcl]) (by omega) (by omega)
    rw [hil]
    exact ⟨_, _, rfl, HS⟩
  · skip
    refine ql (.bool false) (by kernel_rfl) (R_nbool (p := ((L.length : Int) + 1) > (c : Int)) (by kernel_rfl) (hc1)) ?_
    refine wpList_nil ?_
    refine x_then ?_
    refine wp_cond_false (by kernel_rfl) ?_
    refine wp_skip ?_
    refine x_then ?_
    refine wp_seq ?_
    refine wp_region_lit ?_
    refine ql (.slice (some ⟨g, 0, none⟩) L.length c) (by kernel_rfl) (by kernel_rfl) ?_
    refine ql (.int .i64 (L.length : Int)) (by kernel_rfl) (by kernel_rfl) ?_
    refine ql (.int .i64 1) (by kernel_rfl) (by kernel_rfl) ?_
    refine ql (.int .i64 ((L.length : Int) + 1)) (by kernel_rfl) (R_int (by kernel_rfl) (w64 (by omega))) ?_
    refine ql (.slice (some ⟨g, 0, none⟩) (L.length + 1) c) (by kernel_rfl) (R_eq (R_sliceH (z := 1) (e := 21) (k := .i64) (A := (some ⟨g, 0, none⟩)) (n := L.length) (c := c) (i := (L.length : Int) + 1) (by kernel_rfl) (by kernel_rfl) Tryd.underlying72 (by kernel_rfl) (by omega) (by omega)) (by rw [show ((L.length : Int) + 1).toNat = L.length + 1 from by omega])) ?_
    refine ql (.slice (some ⟨g, 0, none⟩) (L.length + 1) c) (by kernel_rfl) (by kernel_rfl) ?_
    refine wpList_nil ?_
    refine x_then ?_
    refine wp_seq ?_
    refine wp_seq ?_
    refine wp_region_lit ?_
    refine ql (.slice (some ⟨gv, 0, none⟩) 1 1) (by kernel_rfl) (by kernel_rfl) ?_
    refine ql (.slice (some ⟨g, 0, none⟩) (L.length + 1) c) (by kernel_rfl) (by kernel_rfl) ?_
    refine ql (.int .i64 (k : Int)) (by kernel_rfl) (by kernel_rfl) ?_
    refine ql (.int .i64 1) (by kernel_rfl) (by kernel_rfl) ?_
    refine ql (.int .i64 ((k : Int) + 1)) (by kernel_rfl) (R_int (by kernel_rfl) (w64 (by omega))) ?_
    refine ql (.slice (some ⟨g, k + 1, none⟩) ((L.length + 1) - (k + 1)) (c - (k + 1))) (by kernel_rfl) (R_eq (R_sliceL (k := .i64) (A := (some ⟨g, 0, none⟩)) (n := (L.length + 1)) (c := c) (i := (k : Int) + 1) (by kernel_rfl) (by kernel_rfl) Tryd.underlying72 (by kernel_rfl) (by omega) (by omega)) (by rw [show ((k : Int) + 1).toNat = k + 1 from by omega, cutA_at (by omega)])) ?_
    refine ql (.bool false) (by kernel_rfl) (R_apart (tS := 72) (tR := 4) (x := ⟨gv, 0, none⟩) (b := ⟨g, k + 1, none⟩) #[.slice (some ⟨gv, 0, none⟩) 1 1, .slice (some ⟨g, k + 1, none⟩) ((L.length + 1) - (k + 1)) (c - (k + 1))] Tryd.func55 (by kernel_rfl) (by kernel_rfl) (by kernel_rfl) (by kernel_rfl) (by kernel_rfl) rfl Tryd.underlying72 (by kernel_rfl) (HS.blkE (i := 1) rfl) (HS.blkE (i := 0) rfl) (HS.blkNe (i := 0) (j := 1) rfl rfl (by decide)) (fun h_ => by have := congrArg List.length h_; rw [hcc] at this; simp only [List.length_nil] at this; omega)) ?_
    refine ql (.bool true) (by kernel_rfl) (by kernel_rfl) ?_
    refine wpList_nil ?_
    refine x_then ?_
    refine wp_cond_true (by kernel_rfl) ?_
    refine wp_seq ?_
    refine rg_still HS 8 (by kernel_rfl) (by kernel_rfl) ?_
    intro W8 H_ HK_
    simp only [List.take_succ_cons, List.take_zero, List.drop_succ_cons, List.drop_zero]
    replace HS : St W M W8 [blk g (ci .i32 L ++ sp) 21, blk gv [.int .i32 x] 21] := H_
    clear H_
    clear HK_
    refine qs (.slice (some ⟨g, 0, none⟩) (L.length + 1) c) (by kernel_rfl) (by kernel_rfl) ?_
    refine qs (.int .i64 (k : Int)) (by kernel_rfl) (by kernel_rfl) ?_
    refine qs (.int .i64 1) (by kernel_rfl) (by kernel_rfl) ?_
    refine qs (.int .i64 ((k : Int) + 1)) (by kernel_rfl) (R_int (by kernel_rfl) (w64 (by omega))) ?_
    refine qs (.slice (some ⟨g, k + 1, none⟩) ((L.length + 1) - (k + 1)) (c - (k + 1))) (by kernel_rfl) (R_eq (R_sliceL (k := .i64) (A := (some ⟨g, 0, none⟩)) (n := (L.length + 1)) (c := c) (i := (k : Int) + 1) (by kernel_rfl) (by kernel_rfl) Tryd.underlying72 (by kernel_rfl) (by omega) (by omega)) (by rw [show ((k : Int) + 1).toNat = k + 1 from by omega, cutA_at (by omega)])) ?_
    refine qs (.slice (some ⟨g, 0, none⟩) (L.length + 1) c) (by kernel_rfl) (by kernel_rfl) ?_
    refine qs (.int .i64 (k : Int)) (by kernel_rfl) (by kernel_rfl) ?_
    refine qs (.slice (some ⟨g, k, none⟩) ((L.length + 1) - (k)) (c - (k))) (by kernel_rfl) (R_eq (R_sliceL (k := .i64) (A := (some ⟨g, 0, none⟩)) (n := (L.length + 1)) (c := c) (i := (k : Int)) (by kernel_rfl) (by kernel_rfl) Tryd.underlying72 (by kernel_rfl) (by omega) (by omega)) (by rw [show ((k : Int)).toNat = k from by omega, cutA_at (by omega)])) ?_
    refine wpStill_nil ?_
    obtain ⟨B1, B2, hb1, hb2, hl1, hl2, ht2⟩ := shift_eq (C := ci .i32 L) (sp := sp) (x := .int .i32 x) (K := k) (by omega) (by omega)
    refine kcpy (o := k + 1) (n := ((L.length + 1) - (k + 1))) (c := (c - (k + 1))) (m := ((L.length + 1) - (k))) (c2 := (c - (k))) (ad := ⟨g, k, none⟩) (xs := (ci .i32 L).drop k) HS 0 rfl (by kernel_rfl) (by kernel_rfl) (by kernel_rfl) Tryd.underlying72 (by kernel_rfl) B1 (by rw [List.length_drop, hcl]; simp only [Nat.min_def]; split <;> omega) (cells_at (fun j v hv => HS.cell (i := 0) rfl (src_drop hv))) (by rw [List.length_drop, hcl]; omega) (fun v hv => ci_one v (List.mem_of_mem_drop hv)) hb1 ?_
    intro W9 H_
    replace HS : St W M W9 [blk g B1 21, blk gv [.int .i32 x] 21] := H_
    clear H_
    refine wpList_nil ?_
    refine x_then ?_
    refine wp_seq ?_
    refine wp_region_lit ?_
    refine ql (.slice (some ⟨g, 0, none⟩) (L.length + 1) c) (by kernel_rfl) (by kernel_rfl) ?_
    refine ql (.int .i64 (k : Int)) (by kernel_rfl) (by kernel_rfl) ?_
    refine ql (.slice (some ⟨g, k, none⟩) ((L.length + 1) - (k)) (c - (k))) (by kernel_rfl) (R_eq (R_sliceL (k := .i64) (A := (some ⟨g, 0, none⟩)) (n := (L.length + 1)) (c := c) (i := (k : Int)) (by kernel_rfl) (by kernel_rfl) Tryd.underlying72 (by kernel_rfl) (by omega) (by omega)) (by rw [show ((k : Int)).toNat = k from by omega, cutA_at (by omega)])) ?_
    refine ql (.slice (some ⟨gv, 0, none⟩) 1 1) (by kernel_rfl) (by kernel_rfl) ?_
    refine kcpy (o := k) (n := ((L.length + 1) - (k))) (c := (c - (k))) (m := 1) (c2 := 1) (ad := ⟨gv, 0, none⟩) (xs := [.int .i32 x]) HS 0 rfl (by kernel_rfl) (by kernel_rfl) (by kernel_rfl) Tryd.underlying72 (by kernel_rfl) B2 (by simp only [List.length_singleton, Nat.min_def]; split <;> omega) (cells_at (fun j v hv => by rw [Nat.zero_add]; exact HS.cell (i := 1) rfl hv)) (by simp only [List.length_singleton]; omega) (one_ (by kernel_rfl)) hb2 ?_
    intro W10 H_
    replace HS : St W M W10 [blk g B2 21, blk gv [.int .i32 x] 21] := H_
    clear H_
    refine wpList_nil ?_
    refine x_then ?_
    refine wp_seq ?_
    refine wp_region_lit ?_
    refine ql (.slice (some ⟨g, 0, none⟩) (L.length + 1) c) (by kernel_rfl) (by kernel_rfl) ?_
    refine ql (.slice (some ⟨g, 0, none⟩) (L.length + 1) c) (by kernel_rfl) (by kernel_rfl) ?_
    refine wpList_nil ?_
    refine x_then ?_
    refine wp_ret ?_
    refine x_thenR ?_
    refine ret_ (.slice (some ⟨g, 0, none⟩) (L.length + 1) c) (by kernel_rfl) ?_
    replace HS : St W M W10 [blk g B2 21] := St.tail (F := [blk gv [.int .i32 x] 21]) (HS.perm (perm_ [1, 0] (by kernel_rfl) rfl))
    have hil : (insA L k x).length = L.length + 1 := insA_len (by omega)
    replace HS := HS.closeRow (i := 0) rfl (L.length + 1) c (ci .i32 (insA L k x)) (by omega) (by rw [ci_insA, ← ht2, hcl]) (by omega) (by omega)
    rw [hil]
    exact ⟨_, _, rfl, HS⟩

end Go.Proofs.YtdiodmdohkjafaaDoor
