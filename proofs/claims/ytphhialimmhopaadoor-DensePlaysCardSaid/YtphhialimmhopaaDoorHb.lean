/- For every two sizes, list of acts and number, two sets of chapter 3 under the acts have the members that the document says: DensePlays returns true, and its arguments read as they did. This text: the walks through the functions that the statement reaches. No condition but those in the statement. -/
import Derived.WalkKit
import Derived.StillTailTactics
import Derived.Deep.LoopGhost
import Derived.KernelRfl
import Derived.Deep.OwnRows
import Derived.Laws.OwnMore
import Derived.Laws.MakeOwn
import Derived.Maps.AppendAt
import Derived.OrdersHeld
import Derived.Test.YtphhialimmhopaaDoorProg
import Derived.Test.YtphhialimmhopaaDoorHa
namespace Go.Proofs.YtphhialimmhopaaDoor
open Go Go.RowKit Go.Shelf Go.Proofs.YtphhialimmhopaaDoor.Hp
attribute [local irreducible] wpStill wpList Code.wp TA
set_option linter.unusedVariables false
set_option linter.unusedSimpArgs false

set_option maxRecDepth 100000 in
set_option maxHeartbeats 1000000 in
theorem ones64 (x : Nat) (W : World) (hx : x < 18446744073709551616) : Calls Tryd.prog 27 #[.int .u64 (x : Int)] W fun e W' => e = .returned (.int .i64 ((pc 64 x : Nat) : Int)) ∧ St W (owns []) W' [] := by
  have HS : St W (owns []) W [] := St.start W _
  refine calls_enter [.int .u64 (x : Int), undef, undef, undef, undef, undef, undef, undef, undef, undef, undef, undef, undef, undef, undef, undef, undef, undef, undef, undef, undef, undef, undef, undef, undef, undef, undef, undef, undef, undef, undef, undef, undef, undef, undef] Tryd.func27 rfl (by kernel_rfl) ?_
  refine wp_seq ?_
  refine wp_region_lit ?_
  refine ql (.int .i64 0) (by kernel_rfl) (by kernel_rfl) ?_
  refine wpList_nil ?_
  refine x_then ?_
  refine wp_seq ?_
  refine wp_region_lit ?_
  refine ql (.int .u64 (x : Int)) (by kernel_rfl) (by kernel_rfl) ?_
  obtain ⟨v1, hv1⟩ : ∃ z_ : Nat, z_ = x >>> 1 := ⟨_, rfl⟩
  have hbv1 : v1 ≤ x := by rw [hv1]; exact Nat.shiftRight_le _ _
  refine ql (.int .u64 (v1 : Int)) (by kernel_rfl) (by rw [hv1]; exact R_shrN (k2 := .u64) (m := x) (k := 1) (by kernel_rfl) (by kernel_rfl) (by omega) (by omega)) ?_
  obtain ⟨v2, hv2⟩ : ∃ z_ : Nat, z_ = v1 &&& 6148914691236517205 := ⟨_, rfl⟩
  have hbv2 : v2 ≤ 6148914691236517205 := by rw [hv2]; exact Nat.and_le_right
  refine ql (.int .u64 (v2 : Int)) (by kernel_rfl) (by rw [hv2]; exact R_andN (m := v1) (k := 6148914691236517205) (by kernel_rfl) (by kernel_rfl) (by omega) (by omega)) ?_
  refine ql (.int .u64 (x : Int)) (by kernel_rfl) (by kernel_rfl) ?_
  obtain ⟨v3, hv3⟩ : ∃ z_ : Nat, z_ = x &&& 6148914691236517205 := ⟨_, rfl⟩
  have hbv3 : v3 ≤ 6148914691236517205 := by rw [hv3]; exact Nat.and_le_right
  refine ql (.int .u64 (v3 : Int)) (by kernel_rfl) (by rw [hv3]; exact R_andN (m := x) (k := 6148914691236517205) (by kernel_rfl) (by kernel_rfl) (by omega) (by omega)) ?_
  obtain ⟨v4, hv4⟩ : ∃ z_ : Nat, z_ = v2 + v3 := ⟨_, rfl⟩
  refine ql (.int .u64 (v4 : Int)) (by kernel_rfl) (by rw [hv4]; exact R_addN (m := v2) (k := v3) (by kernel_rfl) (by kernel_rfl) (by omega)) ?_
  refine ql (.int .u64 (v4 : Int)) (by kernel_rfl) (by kernel_rfl) ?_
  refine wpList_nil ?_
  refine x_then ?_
  refine wp_seq ?_
  refine wp_region_lit ?_
  refine ql (.int .u64 (v4 : Int)) (by kernel_rfl) (by kernel_rfl) ?_
  obtain ⟨v5, hv5⟩ : ∃ z_ : Nat, z_ = v4 >>> 2 := ⟨_, rfl⟩
  have hbv5 : v5 ≤ v4 := by rw [hv5]; exact Nat.shiftRight_le _ _
  refine ql (.int .u64 (v5 : Int)) (by kernel_rfl) (by rw [hv5]; exact R_shrN (k2 := .u64) (m := v4) (k := 2) (by kernel_rfl) (by kernel_rfl) (by omega) (by omega)) ?_
  obtain ⟨v6, hv6⟩ : ∃ z_ : Nat, z_ = v5 &&& 3689348814741910323 := ⟨_, rfl⟩
  have hbv6 : v6 ≤ 3689348814741910323 := by rw [hv6]; exact Nat.and_le_right
  refine ql (.int .u64 (v6 : Int)) (by kernel_rfl) (by rw [hv6]; exact R_andN (m := v5) (k := 3689348814741910323) (by kernel_rfl) (by kernel_rfl) (by omega) (by omega)) ?_
  refine ql (.int .u64 (v4 : Int)) (by kernel_rfl) (by kernel_rfl) ?_
  obtain ⟨v7, hv7⟩ : ∃ z_ : Nat, z_ = v4 &&& 3689348814741910323 := ⟨_, rfl⟩
  have hbv7 : v7 ≤ 3689348814741910323 := by rw [hv7]; exact Nat.and_le_right
  refine ql (.int .u64 (v7 : Int)) (by kernel_rfl) (by rw [hv7]; exact R_andN (m := v4) (k := 3689348814741910323) (by kernel_rfl) (by kernel_rfl) (by omega) (by omega)) ?_
  obtain ⟨v8, hv8⟩ : ∃ z_ : Nat, z_ = v6 + v7 := ⟨_, rfl⟩
  refine ql (.int .u64 (v8 : Int)) (by kernel_rfl) (by rw [hv8]; exact R_addN (m := v6) (k := v7) (by kernel_rfl) (by kernel_rfl) (by omega)) ?_
  refine ql (.int .u64 (v8 : Int)) (by kernel_rfl) (by kernel_rfl) ?_
  refine wpList_nil ?_
  refine x_then ?_
  refine wp_seq ?_
  refine wp_region_lit ?_
  refine ql (.int .u64 (v8 : Int)) (by kernel_rfl) (by kernel_rfl) ?_
  obtain ⟨v9, hv9⟩ : ∃ z_ : Nat, z_ = v8 >>> 4 := ⟨_, rfl⟩
  have hbv9 : v9 ≤ v8 := by rw [hv9]; exact Nat.shiftRight_le _ _
  refine ql (.int .u64 (v9 : Int)) (by kernel_rfl) (by rw [hv9]; exact R_shrN (k2 := .u64) (m := v8) (k := 4) (by kernel_rfl) (by kernel_rfl) (by omega) (by omega)) ?_
  refine ql (.int .u64 (v8 : Int)) (by kernel_rfl) (by kernel_rfl) ?_
  obtain ⟨v10, hv10⟩ : ∃ z_ : Nat, z_ = v9 + v8 := ⟨_, rfl⟩
  refine ql (.int .u64 (v10 : Int)) (by kernel_rfl) (by rw [hv10]; exact R_addN (m := v9) (k := v8) (by kernel_rfl) (by kernel_rfl) (by omega)) ?_
  obtain ⟨v11, hv11⟩ : ∃ z_ : Nat, z_ = v10 &&& 1085102592571150095 := ⟨_, rfl⟩
  have hbv11 : v11 ≤ 1085102592571150095 := by rw [hv11]; exact Nat.and_le_right
  refine ql (.int .u64 (v11 : Int)) (by kernel_rfl) (by rw [hv11]; exact R_andN (m := v10) (k := 1085102592571150095) (by kernel_rfl) (by kernel_rfl) (by omega) (by omega)) ?_
  refine ql (.int .u64 (v11 : Int)) (by kernel_rfl) (by kernel_rfl) ?_
  refine wpList_nil ?_
  refine x_then ?_
  refine wp_seq ?_
  refine wp_region_lit ?_
  refine ql (.int .u64 (v11 : Int)) (by kernel_rfl) (by kernel_rfl) ?_
  refine ql (.int .u64 (v11 : Int)) (by kernel_rfl) (by kernel_rfl) ?_
  obtain ⟨v12, hv12⟩ : ∃ z_ : Nat, z_ = v11 >>> 8 := ⟨_, rfl⟩
  have hbv12 : v12 ≤ v11 := by rw [hv12]; exact Nat.shiftRight_le _ _
  refine ql (.int .u64 (v12 : Int)) (by kernel_rfl) (by rw [hv12]; exact R_shrN (k2 := .u64) (m := v11) (k := 8) (by kernel_rfl) (by kernel_rfl) (by omega) (by omega)) ?_
  obtain ⟨v13, hv13⟩ : ∃ z_ : Nat, z_ = v11 + v12 := ⟨_, rfl⟩
  refine ql (.int .u64 (v13 : Int)) (by kernel_rfl) (by rw [hv13]; exact R_addN (m := v11) (k := v12) (by kernel_rfl) (by kernel_rfl) (by omega)) ?_
  refine ql (.int .u64 (v13 : Int)) (by kernel_rfl) (by kernel_rfl) ?_
  refine wpList_nil ?_
  refine x_then ?_
  refine wp_seq ?_
  refine wp_region_lit ?_
  refine ql (.int .u64 (v13 : Int)) (by kernel_rfl) (by kernel_rfl) ?_
  refine ql (.int .u64 (v13 : Int)) (by kernel_rfl) (by kernel_rfl) ?_
  obtain ⟨v14, hv14⟩ : ∃ z_ : Nat, z_ = v13 >>> 16 := ⟨_, rfl⟩
  have hbv14 : v14 ≤ v13 := by rw [hv14]; exact Nat.shiftRight_le _ _
  refine ql (.int .u64 (v14 : Int)) (by kernel_rfl) (by rw [hv14]; exact R_shrN (k2 := .u64) (m := v13) (k := 16) (by kernel_rfl) (by kernel_rfl) (by omega) (by omega)) ?_
  obtain ⟨v15, hv15⟩ : ∃ z_ : Nat, z_ = v13 + v14 := ⟨_, rfl⟩
  refine ql (.int .u64 (v15 : Int)) (by kernel_rfl) (by rw [hv15]; exact R_addN (m := v13) (k := v14) (by kernel_rfl) (by kernel_rfl) (by omega)) ?_
  refine ql (.int .u64 (v15 : Int)) (by kernel_rfl) (by kernel_rfl) ?_
  refine wpList_nil ?_
  refine x_then ?_
  refine wp_seq ?_
  refine wp_region_lit ?_
  refine ql (.int .u64 (v15 : Int)) (by kernel_rfl) (by kernel_rfl) ?_
  refine ql (.int .u64 (v15 : Int)) (by kernel_rfl) (by kernel_rfl) ?_
  obtain ⟨v16, hv16⟩ : ∃ z_ : Nat, z_ = v15 >>> 32 := ⟨_, rfl⟩
  have hbv16 : v16 ≤ v15 := by rw [hv16]; exact Nat.shiftRight_le _ _
  refine ql (.int .u64 (v16 : Int)) (by kernel_rfl) (by rw [hv16]; exact R_shrN (k2 := .u64) (m := v15) (k := 32) (by kernel_rfl) (by kernel_rfl) (by omega) (by omega)) ?_
  obtain ⟨v17, hv17⟩ : ∃ z_ : Nat, z_ = v15 + v16 := ⟨_, rfl⟩
  refine ql (.int .u64 (v17 : Int)) (by kernel_rfl) (by rw [hv17]; exact R_addN (m := v15) (k := v16) (by kernel_rfl) (by kernel_rfl) (by omega)) ?_
  refine ql (.int .u64 (v17 : Int)) (by kernel_rfl) (by kernel_rfl) ?_
  refine wpList_nil ?_
  refine x_then ?_
  refine wp_seq ?_
  refine wp_region_lit ?_
  refine ql (.int .u64 (v17 : Int)) (by kernel_rfl) (by kernel_rfl) ?_
  refine ql (.int .i64 (v17 : Int)) (by kernel_rfl) (R_int (by kernel_rfl) (w64 (by omega))) ?_
  refine ql (.int .i64 ((v17 : Int) % 128)) (by kernel_rfl) (R_and127 (by kernel_rfl) (by kernel_rfl) (by omega) (by omega)) ?_
  refine ql (.int .i64 ((v17 : Int) % 128)) (by kernel_rfl) (by kernel_rfl) ?_
  refine wpList_nil ?_
  refine x_then ?_
  refine wp_ret ?_
  refine ret_ (.int .i64 ((v17 : Int) % 128)) (by kernel_rfl) ?_
  have hX : (v17 : Int) % 128 = ((onesC x : Nat) : Int) := by unfold onesC; simp only [hv1, hv2, hv3, hv4, hv5, hv6, hv7, hv8, hv9, hv10, hv11, hv12, hv13, hv14, hv15, hv16, hv17]; rfl
  rw [onesC_eq hx] at hX
  exact ⟨by rw [hX], HS⟩

set_option maxRecDepth 100000 in
set_option maxHeartbeats 1000000 in
theorem dsize (g : Nat) (n : Int) (W : World) (hz1 : W.cell? ⟨g, 1, none⟩ = some (.int .i64 n)) : Calls Tryd.prog 22 #[.pointer (some ⟨g, 0, none⟩)] W fun e W' => e = .returned (.int .i64 n) ∧ St W (owns []) W' [] := by
  have HS : St W (owns []) W [] := St.start W _
  refine calls_enter [.pointer (some ⟨g, 0, none⟩), undef, undef, undef, undef, undef, undef, undef, undef] Tryd.func22 rfl (by kernel_rfl) ?_
  refine wp_seq ?_
  refine wp_region_lit ?_
  refine ql (.int .i64 0) (by kernel_rfl) (by kernel_rfl) ?_
  refine wpList_nil ?_
  refine x_then ?_
  refine wp_seq ?_
  refine wp_seq ?_
  refine wp_region_lit ?_
  refine ql (.pointer (some ⟨g, 0, none⟩)) (by kernel_rfl) (by kernel_rfl) ?_
  refine ql (.bool false) (by kernel_rfl) (by kernel_rfl) ?_
  refine wpList_nil ?_
  refine x_then ?_
  refine wp_cond_false (by kernel_rfl) ?_
  refine wp_skip ?_
  refine x_then ?_
  refine wp_seq ?_
  refine wp_region_lit ?_
  refine ql (.pointer (some ⟨g, 0, none⟩)) (by kernel_rfl) (by kernel_rfl) ?_
  refine ql (.pointer (some ⟨g, 0, none⟩)) (by kernel_rfl) (by kernel_rfl) ?_
  refine ql (.pointer (some ⟨g, 1, none⟩)) (by kernel_rfl) (by kernel_rfl) ?_
  refine ql (.int .i64 n) (by kernel_rfl) (R_load (p := ⟨g, 1, none⟩) (by kernel_rfl) (by kernel_rfl) (by kernel_rfl) (HS.old0 hz1)) ?_
  refine ql (.int .i64 n) (by kernel_rfl) (by kernel_rfl) ?_
  refine wpList_nil ?_
  refine x_then ?_
  refine wp_ret ?_
  refine ret_ (.int .i64 n) (by kernel_rfl) ?_
  exact ⟨rfl, HS⟩

set_option maxRecDepth 100000 in
set_option maxHeartbeats 1000000 in
theorem dis_t (g : Nat) (n i : Int) (W : World) (hz1 : W.cell? ⟨g, 1, none⟩ = some (.int .i64 n)) (h0 : 0 ≤ i) (h1 : i < n) : Calls Tryd.prog 25 #[.pointer (some ⟨g, 0, none⟩), .int .i64 i] W fun e W' => e = .returned (.bool true) ∧ St W (owns []) W' [] := by
  have HS : St W (owns []) W [] := St.start W _
  refine calls_enter [.pointer (some ⟨g, 0, none⟩), .int .i64 i, undef, undef, undef, undef, undef, undef, undef, undef, undef, undef, undef] Tryd.func25 rfl (by kernel_rfl) ?_
  refine wp_seq ?_
  refine wp_region_lit ?_
  refine ql (.bool false) (by kernel_rfl) (by kernel_rfl) ?_
  refine wpList_nil ?_
  refine x_then ?_
  refine wp_seq ?_
  refine wp_region_lit ?_
  refine ql (.int .i64 i) (by kernel_rfl) (by kernel_rfl) ?_
  by_cases hc1 : i ≥ (0 : Int)
  · skip
    refine ql (.bool true) (by kernel_rfl) (R_bool (p := i ≥ (0 : Int)) (by kernel_rfl) (hc1)) ?_
    refine ql (.bool true) (by kernel_rfl) (by kernel_rfl) ?_
    refine ql (.int .i64 i) (by kernel_rfl) (by kernel_rfl) ?_
    refine ql (.pointer (some ⟨g, 0, none⟩)) (by kernel_rfl) (by kernel_rfl) ?_
    refine qc (f := 22) (args := #[.pointer (some ⟨g, 0, none⟩)]) (by kernel_rfl) (R_call #[.pointer (some ⟨g, 0, none⟩)] Tryd.func22 (by kernel_rfl) (by kernel_rfl) (by kernel_rfl)) ?_
    refine (dsize _ _ _ (HS.old0 hz1)).mono ?_
    rintro e W2 ⟨rfl, H_⟩
    refine ⟨_, rfl, ?_⟩
    replace HS : St W (owns []) W2 [] := HS.join (F := []) (G := []) H_
    clear H_
    by_cases hc3 : i < n
    · skip
      refine ql (.bool true) (by kernel_rfl) (R_bool (p := i < n) (by kernel_rfl) (hc3)) ?_
      refine ql (.bool true) (by kernel_rfl) (by kernel_rfl) ?_
      refine ql (.bool true) (by kernel_rfl) (by kernel_rfl) ?_
      refine wpList_nil ?_
      refine x_then ?_
      refine wp_ret ?_
      refine ret_ (.bool true) (by kernel_rfl) ?_
      exact ⟨rfl, HS⟩
    · skip
      refine ql (.bool false) (by kernel_rfl) (R_nbool (p := i < n) (by kernel_rfl) (hc3)) ?_
      refine ql (.bool false) (by kernel_rfl) (by kernel_rfl) ?_
      refine ql (.bool false) (by kernel_rfl) (by kernel_rfl) ?_
      refine wpList_nil ?_
      refine x_then ?_
      refine wp_ret ?_
      refine ret_ (.bool false) (by kernel_rfl) ?_
      exfalso; omega
  · skip
    refine ql (.bool false) (by kernel_rfl) (R_nbool (p := i ≥ (0 : Int)) (by kernel_rfl) (hc1)) ?_
    refine ql (.bool false) (by kernel_rfl) (by kernel_rfl) ?_
    refine qln (by kernel_rfl) ?_
    refine qln (by kernel_rfl) ?_
    refine qln (by kernel_rfl) ?_
    refine qln (by kernel_rfl) ?_
    refine ql (.bool false) (by kernel_rfl) (by kernel_rfl) ?_
    refine ql (.bool false) (by kernel_rfl) (by kernel_rfl) ?_
    refine wpList_nil ?_
    refine x_then ?_
    refine wp_ret ?_
    refine ret_ (.bool false) (by kernel_rfl) ?_
    exfalso; omega

set_option maxRecDepth 100000 in
set_option maxHeartbeats 1000000 in
theorem dis_f (g : Nat) (n i : Int) (W : World) (hz1 : W.cell? ⟨g, 1, none⟩ = some (.int .i64 n)) (ho : i < 0 ∨ n ≤ i) : Calls Tryd.prog 25 #[.pointer (some ⟨g, 0, none⟩), .int .i64 i] W fun e W' => e = .returned (.bool false) ∧ St W (owns []) W' [] := by
  have HS : St W (owns []) W [] := St.start W _
  refine calls_enter [.pointer (some ⟨g, 0, none⟩), .int .i64 i, undef, undef, undef, undef, undef, undef, undef, undef, undef, undef, undef] Tryd.func25 rfl (by kernel_rfl) ?_
  refine wp_seq ?_
  refine wp_region_lit ?_
  refine ql (.bool false) (by kernel_rfl) (by kernel_rfl) ?_
  refine wpList_nil ?_
  refine x_then ?_
  refine wp_seq ?_
  refine wp_region_lit ?_
  refine ql (.int .i64 i) (by kernel_rfl) (by kernel_rfl) ?_
  by_cases hc1 : i ≥ (0 : Int)
  · skip
    refine ql (.bool true) (by kernel_rfl) (R_bool (p := i ≥ (0 : Int)) (by kernel_rfl) (hc1)) ?_
    refine ql (.bool true) (by kernel_rfl) (by kernel_rfl) ?_
    refine ql (.int .i64 i) (by kernel_rfl) (by kernel_rfl) ?_
    refine ql (.pointer (some ⟨g, 0, none⟩)) (by kernel_rfl) (by kernel_rfl) ?_
    refine qc (f := 22) (args := #[.pointer (some ⟨g, 0, none⟩)]) (by kernel_rfl) (R_call #[.pointer (some ⟨g, 0, none⟩)] Tryd.func22 (by kernel_rfl) (by kernel_rfl) (by kernel_rfl)) ?_
    refine (dsize _ _ _ (HS.old0 hz1)).mono ?_
    rintro e W2 ⟨rfl, H_⟩
    refine ⟨_, rfl, ?_⟩
    replace HS : St W (owns []) W2 [] := HS.join (F := []) (G := []) H_
    clear H_
    by_cases hc3 : i < n
    · skip
      refine ql (.bool true) (by kernel_rfl) (R_bool (p := i < n) (by kernel_rfl) (hc3)) ?_
      refine ql (.bool true) (by kernel_rfl) (by kernel_rfl) ?_
      refine ql (.bool true) (by kernel_rfl) (by kernel_rfl) ?_
      refine wpList_nil ?_
      refine x_then ?_
      refine wp_ret ?_
      refine ret_ (.bool true) (by kernel_rfl) ?_
      exfalso; omega
    · skip
      refine ql (.bool false) (by kernel_rfl) (R_nbool (p := i < n) (by kernel_rfl) (hc3)) ?_
      refine ql (.bool false) (by kernel_rfl) (by kernel_rfl) ?_
      refine ql (.bool false) (by kernel_rfl) (by kernel_rfl) ?_
      refine wpList_nil ?_
      refine x_then ?_
      refine wp_ret ?_
      refine ret_ (.bool false) (by kernel_rfl) ?_
      exact ⟨rfl, HS⟩
  · skip
    refine ql (.bool false) (by kernel_rfl) (R_nbool (p := i ≥ (0 : Int)) (by kernel_rfl) (hc1)) ?_
    refine ql (.bool false) (by kernel_rfl) (by kernel_rfl) ?_
    refine qln (by kernel_rfl) ?_
    refine qln (by kernel_rfl) ?_
    refine qln (by kernel_rfl) ?_
    refine qln (by kernel_rfl) ?_
    refine ql (.bool false) (by kernel_rfl) (by kernel_rfl) ?_
    refine ql (.bool false) (by kernel_rfl) (by kernel_rfl) ?_
    refine wpList_nil ?_
    refine x_then ?_
    refine wp_ret ?_
    refine ret_ (.bool false) (by kernel_rfl) ?_
    exact ⟨rfl, HS⟩

set_option maxRecDepth 100000 in
set_option maxHeartbeats 1000000 in
theorem dhas_t (g c : Nat) (A : Option Addr) (ws : List Int) (n : Int) (L : List Int) (i : Int) (W : World) (hz0 : W.cell? ⟨g, 0, none⟩ = some (.slice A ws.length c)) (hz1 : W.cell? ⟨g, 1, none⟩ = some (.int .i64 n)) (hr : Rd W A (ci .u64 ws)) (hR : Rep ws n L) (hn : n ≤ 1048576) (hi : i ∈ L) : Calls Tryd.prog 15 #[.pointer (some ⟨g, 0, none⟩), .int .i64 i] W fun e W' => e = .returned (.bool true) ∧ St W (owns []) W' [] := by
  have HS : St W (owns []) W [] := St.start W _
  have h0 := (hR.lim i hi).1
  have h1 := (hR.lim i hi).2
  have hix := hR.idx h0 h1
  refine calls_enter [.pointer (some ⟨g, 0, none⟩), .int .i64 i, undef, undef, undef, undef, undef, undef, undef, undef, undef, undef, undef, undef, undef, undef, undef, undef, undef, undef, undef, undef, undef] Tryd.func15 rfl (by kernel_rfl) ?_
  refine wp_seq ?_
  refine wp_region_lit ?_
  refine ql (.bool false) (by kernel_rfl) (by kernel_rfl) ?_
  refine wpList_nil ?_
  refine x_then ?_
  refine wp_seq ?_
  refine wp_region_lit ?_
  refine ql (.pointer (some ⟨g, 0, none⟩)) (by kernel_rfl) (by kernel_rfl) ?_
  refine ql (.int .i64 i) (by kernel_rfl) (by kernel_rfl) ?_
  refine qc (f := 25) (args := #[.pointer (some ⟨g, 0, none⟩), .int .i64 i]) (by kernel_rfl) (R_call #[.pointer (some ⟨g, 0, none⟩), .int .i64 i] Tryd.func25 (by kernel_rfl) (by kernel_rfl) (by kernel_rfl)) ?_
  refine (dis_t _ _ i _ (HS.old0 hz1) (hR.lim i hi).1 (hR.lim i hi).2).mono ?_
  rintro e W1 ⟨rfl, H_⟩
  refine ⟨_, rfl, ?_⟩
  replace HS : St W (owns []) W1 [] := HS.join (F := []) (G := []) H_
  clear H_
  refine ql (.bool true) (by kernel_rfl) (by kernel_rfl) ?_
  refine ql (.pointer (some ⟨g, 0, none⟩)) (by kernel_rfl) (by kernel_rfl) ?_
  refine ql (.pointer (some ⟨g, 0, none⟩)) (by kernel_rfl) (by kernel_rfl) ?_
  refine ql (.pointer (some ⟨g, 0, none⟩)) (by kernel_rfl) (by kernel_rfl) ?_
  refine ql (.slice A ws.length c) (by kernel_rfl) (R_load (p := ⟨g, 0, none⟩) (by kernel_rfl) (by kernel_rfl) (by kernel_rfl) (HS.old0 hz0)) ?_
  refine ql (.int .i64 i) (by kernel_rfl) (by kernel_rfl) ?_
  refine ql (.int .i64 (i / 64)) (by kernel_rfl) (R_quo (by kernel_rfl) (by kernel_rfl) (by omega) (by omega) (by decide)) ?_
  obtain ⟨ad2, rfl⟩ := Rd.isSome_ hr (by rw [ci_len]; omega)
  refine ql (.pointer (some (ad2.add (i / 64).toNat))) (by kernel_rfl) (R_indexA1 (k := .i64) (p := ad2) (n := ws.length) (c := c) (i := i / 64) (by kernel_rfl) (by kernel_rfl) Tryd.underlying51 (by kernel_rfl) (by omega) (by omega)) ?_
  refine ql (.int .u64 (rdI ws (i / 64))) (by kernel_rfl) (R_load (p := ad2.add (i / 64).toNat) (by kernel_rfl) (by kernel_rfl) (by kernel_rfl) (HS.old0 (hr.at_ (ci_rd (i := i / 64) (by omega) (by omega))))) ?_
  refine ql (.int .i64 i) (by kernel_rfl) (by kernel_rfl) ?_
  refine ql (.int .i64 (i % 64)) (by kernel_rfl) (R_rem2 (by kernel_rfl) (by kernel_rfl) (by omega) (by omega) (by decide)) ?_
  refine ql (.int .u64 (shrW (rdI ws (i / 64)) (i % 64))) (by kernel_rfl) (R_shr (k2 := .i64) (by kernel_rfl) (by kernel_rfl) (hR.rd_at h0 h1) (by omega) (by omega)) ?_
  refine ql (.int .u64 (andW (shrW (rdI ws (i / 64)) (i % 64)) 1)) (by kernel_rfl) (R_and (by kernel_rfl) (by kernel_rfl) (u_shr (hR.rd_at h0 h1)) (u_lit 1 (by decide))) ?_
  refine ql (.bool true) (by kernel_rfl) (R_beq (b := (andW (shrW (rdI ws (i / 64)) (i % 64)) 1 == (1 : Int))) (by kernel_rfl) (beq_t (hR.has_t hi))) ?_
  refine ql (.bool true) (by kernel_rfl) (by kernel_rfl) ?_
  refine ql (.bool true) (by kernel_rfl) (by kernel_rfl) ?_
  refine wpList_nil ?_
  refine x_then ?_
  refine wp_ret ?_
  refine ret_ (.bool true) (by kernel_rfl) ?_
  exact ⟨rfl, HS⟩

set_option maxRecDepth 100000 in
set_option maxHeartbeats 1000000 in
theorem dhas_f (g c : Nat) (A : Option Addr) (ws : List Int) (n : Int) (L : List Int) (i : Int) (W : World) (hz0 : W.cell? ⟨g, 0, none⟩ = some (.slice A ws.length c)) (hz1 : W.cell? ⟨g, 1, none⟩ = some (.int .i64 n)) (hr : Rd W A (ci .u64 ws)) (hR : Rep ws n L) (hn : n ≤ 1048576) (h0 : 0 ≤ i) (h1 : i < n) (hi : i ∉ L) : Calls Tryd.prog 15 #[.pointer (some ⟨g, 0, none⟩), .int .i64 i] W fun e W' => e = .returned (.bool false) ∧ St W (owns []) W' [] := by
  have HS : St W (owns []) W [] := St.start W _
  have hix := hR.idx h0 h1
  refine calls_enter [.pointer (some ⟨g, 0, none⟩), .int .i64 i, undef, undef, undef, undef, undef, undef, undef, undef, undef, undef, undef, undef, undef, undef, undef, undef, undef, undef, undef, undef, undef] Tryd.func15 rfl (by kernel_rfl) ?_
  refine wp_seq ?_
  refine wp_region_lit ?_
  refine ql (.bool false) (by kernel_rfl) (by kernel_rfl) ?_
  refine wpList_nil ?_
  refine x_then ?_
  refine wp_seq ?_
  refine wp_region_lit ?_
  refine ql (.pointer (some ⟨g, 0, none⟩)) (by kernel_rfl) (by kernel_rfl) ?_
  refine ql (.int .i64 i) (by kernel_rfl) (by kernel_rfl) ?_
  refine qc (f := 25) (args := #[.pointer (some ⟨g, 0, none⟩), .int .i64 i]) (by kernel_rfl) (R_call #[.pointer (some ⟨g, 0, none⟩), .int .i64 i] Tryd.func25 (by kernel_rfl) (by kernel_rfl) (by kernel_rfl)) ?_
  refine (dis_t _ _ i _ (HS.old0 hz1) h0 h1).mono ?_
  rintro e W1 ⟨rfl, H_⟩
  refine ⟨_, rfl, ?_⟩
  replace HS : St W (owns []) W1 [] := HS.join (F := []) (G := []) H_
  clear H_
  refine ql (.bool true) (by kernel_rfl) (by kernel_rfl) ?_
  refine ql (.pointer (some ⟨g, 0, none⟩)) (by kernel_rfl) (by kernel_rfl) ?_
  refine ql (.pointer (some ⟨g, 0, none⟩)) (by kernel_rfl) (by kernel_rfl) ?_
  refine ql (.pointer (some ⟨g, 0, none⟩)) (by kernel_rfl) (by kernel_rfl) ?_
  refine ql (.slice A ws.length c) (by kernel_rfl) (R_load (p := ⟨g, 0, none⟩) (by kernel_rfl) (by kernel_rfl) (by kernel_rfl) (HS.old0 hz0)) ?_
  refine ql (.int .i64 i) (by kernel_rfl) (by kernel_rfl) ?_
  refine ql (.int .i64 (i / 64)) (by kernel_rfl) (R_quo (by kernel_rfl) (by kernel_rfl) (by omega) (by omega) (by decide)) ?_
  obtain ⟨ad2, rfl⟩ := Rd.isSome_ hr (by rw [ci_len]; omega)
  refine ql (.pointer (some (ad2.add (i / 64).toNat))) (by kernel_rfl) (R_indexA1 (k := .i64) (p := ad2) (n := ws.length) (c := c) (i := i / 64) (by kernel_rfl) (by kernel_rfl) Tryd.underlying51 (by kernel_rfl) (by omega) (by omega)) ?_
  refine ql (.int .u64 (rdI ws (i / 64))) (by kernel_rfl) (R_load (p := ad2.add (i / 64).toNat) (by kernel_rfl) (by kernel_rfl) (by kernel_rfl) (HS.old0 (hr.at_ (ci_rd (i := i / 64) (by omega) (by omega))))) ?_
  refine ql (.int .i64 i) (by kernel_rfl) (by kernel_rfl) ?_
  refine ql (.int .i64 (i % 64)) (by kernel_rfl) (R_rem2 (by kernel_rfl) (by kernel_rfl) (by omega) (by omega) (by decide)) ?_
  refine ql (.int .u64 (shrW (rdI ws (i / 64)) (i % 64))) (by kernel_rfl) (R_shr (k2 := .i64) (by kernel_rfl) (by kernel_rfl) (hR.rd_at h0 h1) (by omega) (by omega)) ?_
  refine ql (.int .u64 (andW (shrW (rdI ws (i / 64)) (i % 64)) 1)) (by kernel_rfl) (R_and (by kernel_rfl) (by kernel_rfl) (u_shr (hR.rd_at h0 h1)) (u_lit 1 (by decide))) ?_
  refine ql (.bool false) (by kernel_rfl) (R_beq (b := (andW (shrW (rdI ws (i / 64)) (i % 64)) 1 == (1 : Int))) (by kernel_rfl) (beq_f (hR.has_f h0 h1 hi))) ?_
  refine ql (.bool false) (by kernel_rfl) (by kernel_rfl) ?_
  refine ql (.bool false) (by kernel_rfl) (by kernel_rfl) ?_
  refine wpList_nil ?_
  refine x_then ?_
  refine wp_ret ?_
  refine ret_ (.bool false) (by kernel_rfl) ?_
  exact ⟨rfl, HS⟩

set_option maxRecDepth 100000 in
set_option maxHeartbeats 1000000 in
theorem dhas_o (g c : Nat) (A : Option Addr) (ws : List Int) (n : Int) (L : List Int) (i : Int) (W : World) (hz0 : W.cell? ⟨g, 0, none⟩ = some (.slice A ws.length c)) (hz1 : W.cell? ⟨g, 1, none⟩ = some (.int .i64 n)) (hr : Rd W A (ci .u64 ws)) (hR : Rep ws n L) (hn : n ≤ 1048576) (ho : i < 0 ∨ n ≤ i) : Calls Tryd.prog 15 #[.pointer (some ⟨g, 0, none⟩), .int .i64 i] W fun e W' => e = .returned (.bool false) ∧ St W (owns []) W' [] := by
  have HS : St W (owns []) W [] := St.start W _
  refine calls_enter [.pointer (some ⟨g, 0, none⟩), .int .i64 i, undef, undef, undef, undef, undef, undef, undef, undef, undef, undef, undef, undef, undef, undef, undef, undef, undef, undef, undef, undef, undef] Tryd.func15 rfl (by kernel_rfl) ?_
  refine wp_seq ?_
  refine wp_region_lit ?_
  refine ql (.bool false) (by kernel_rfl) (by kernel_rfl) ?_
  refine wpList_nil ?_
  refine x_then ?_
  refine wp_seq ?_
  refine wp_region_lit ?_
  refine ql (.pointer (some ⟨g, 0, none⟩)) (by kernel_rfl) (by kernel_rfl) ?_
  refine ql (.int .i64 i) (by kernel_rfl) (by kernel_rfl) ?_
  refine qc (f := 25) (args := #[.pointer (some ⟨g, 0, none⟩), .int .i64 i]) (by kernel_rfl) (R_call #[.pointer (some ⟨g, 0, none⟩), .int .i64 i] Tryd.func25 (by kernel_rfl) (by kernel_rfl) (by kernel_rfl)) ?_
  refine (dis_f _ _ i _ (HS.old0 hz1) ho).mono ?_
  rintro e W1 ⟨rfl, H_⟩
  refine ⟨_, rfl, ?_⟩
  replace HS : St W (owns []) W1 [] := HS.join (F := []) (G := []) H_
  clear H_
  refine ql (.bool false) (by kernel_rfl) (by kernel_rfl) ?_
  refine qln (by kernel_rfl) ?_
  refine qln (by kernel_rfl) ?_
  refine qln (by kernel_rfl) ?_
  refine qln (by kernel_rfl) ?_
  refine qln (by kernel_rfl) ?_
  refine qln (by kernel_rfl) ?_
  refine qln (by kernel_rfl) ?_
  refine qln (by kernel_rfl) ?_
  refine qln (by kernel_rfl) ?_
  refine qln (by kernel_rfl) ?_
  refine qln (by kernel_rfl) ?_
  refine qln (by kernel_rfl) ?_
  refine qln (by kernel_rfl) ?_
  refine ql (.bool false) (by kernel_rfl) (by kernel_rfl) ?_
  refine ql (.bool false) (by kernel_rfl) (by kernel_rfl) ?_
  refine wpList_nil ?_
  refine x_then ?_
  refine wp_ret ?_
  refine ret_ (.bool false) (by kernel_rfl) ?_
  exact ⟨rfl, HS⟩

theorem dhas_n (g c : Nat) (A : Option Addr) (ws : List Int) (n : Int) (L : List Int) (i : Int) (W : World) (hz0 : W.cell? ⟨g, 0, none⟩ = some (.slice A ws.length c)) (hz1 : W.cell? ⟨g, 1, none⟩ = some (.int .i64 n)) (hr : Rd W A (ci .u64 ws)) (hR : Rep ws n L) (hn : n ≤ 1048576) (hi : i ∉ L) : Calls Tryd.prog 15 #[.pointer (some ⟨g, 0, none⟩), .int .i64 i] W fun e W' => e = .returned (.bool false) ∧ St W (owns []) W' [] := by
  by_cases h : 0 ≤ i ∧ i < n
  · exact dhas_f g c A ws n L i W hz0 hz1 hr hR hn h.1 h.2 hi
  · exact dhas_o g c A ws n L i W hz0 hz1 hr hR hn (by omega)


def TabAt64 (W : World) : Prop := ∀ j, j < 64 → W.cell? ⟨0, j, none⟩ = some (.int .u8 ((Lib.deBruijn64tab.getD j 0 : Nat) : Int))

set_option maxRecDepth 100000 in
set_option maxHeartbeats 1000000 in
theorem tz64 (x : Nat) (W : World) (hx : x < 18446744073709551616) (h0 : x ≠ 0) (hT : TabAt64 W) : Calls Tryd.prog 35 #[.int .u64 (x : Int)] W fun e W' => e = .returned (.int .i64 ((Lib.ctz 64 x : Nat) : Int)) ∧ St W (owns []) W' [] := by
  have HS : St W (owns []) W [] := St.start W _
  obtain ⟨hlow, hk⟩ := Lib.lowest_bit 64 x h0 hx
  obtain ⟨hi, htab⟩ := Lib.deBruijn64_at _ hk
  have hcell := hT _ hi
  rw [htab] at hcell
  refine calls_enter [.int .u64 (x : Int), undef, undef, undef, undef, undef, undef, undef, undef, undef, undef, undef, undef, undef] Tryd.func35 rfl (by kernel_rfl) ?_
  refine wp_seq ?_
  refine wp_region_lit ?_
  refine ql (.int .i64 0) (by kernel_rfl) (by kernel_rfl) ?_
  refine wpList_nil ?_
  refine x_then ?_
  refine wp_seq ?_
  refine wp_seq ?_
  refine wp_region_lit ?_
  refine ql (.int .u64 (x : Int)) (by kernel_rfl) (by kernel_rfl) ?_
  refine ql (.bool false) (by kernel_rfl) (R_beq (b := ((x : Int) == (0 : Int))) (by kernel_rfl) (beq_f (by omega))) ?_
  refine wpList_nil ?_
  refine x_then ?_
  refine wp_cond_false (by kernel_rfl) ?_
  refine wp_skip ?_
  refine x_then ?_
  refine wp_seq ?_
  refine wp_region_lit ?_
  refine ql (.int .u64 (x : Int)) (by kernel_rfl) (by kernel_rfl) ?_
  refine ql (.int .u64 (x : Int)) (by kernel_rfl) (by kernel_rfl) ?_
  refine ql (.int .u64 ((18446744073709551616 - x : Nat) : Int)) (by kernel_rfl) (R_negN (m := x) (by kernel_rfl) h0 hx) ?_
  refine ql (.int .u64 ((2 ^ Lib.ctz 64 x : Nat) : Int)) (by kernel_rfl) (by rw [← hlow]; exact R_andN (m := x) (k := 18446744073709551616 - x) (by kernel_rfl) (by kernel_rfl) hx (by omega)) ?_
  refine ql (.int .u64 ((2 ^ Lib.ctz 64 x * 285870213051353865 % 18446744073709551616 : Nat) : Int)) (by kernel_rfl) (R_mulN (m := 2 ^ Lib.ctz 64 x) (k := 285870213051353865) (by kernel_rfl) (by kernel_rfl)) ?_
  refine ql (.int .u64 (((2 ^ Lib.ctz 64 x * 285870213051353865 % 18446744073709551616 / 288230376151711744) : Nat) : Int)) (by kernel_rfl) (by have h9 := R_shrN (P := Tryd.prog) (W := W) (m := 2 ^ Lib.ctz 64 x * 285870213051353865 % 18446744073709551616) (k := 58) (k2 := .u64) (dst := some 10) (t := 54) (x := (Go.Operand.tmp 9)) (y := (Go.Operand.const (Go.Value.int Go.IntKind.u64 58))) (t2 := 64) (ty := 54) (ps := "bits.go:105") (af := #[{ on := 4, ground := Go.Ground.data }]) (gd := none) (a := Fr [.int .u64 (x : Int), undef, .int .i64 0, .int .u64 (x : Int), .bool false, .int .u64 (x : Int), .int .u64 (x : Int), .int .u64 ((18446744073709551616 - x : Nat) : Int), .int .u64 ((2 ^ Lib.ctz 64 x : Nat) : Int), .int .u64 ((2 ^ Lib.ctz 64 x * 285870213051353865 % 18446744073709551616 : Nat) : Int), undef, undef, undef, undef]) (by kernel_rfl) (by kernel_rfl) (Nat.mod_lt _ (by decide)) (by decide); rw [Nat.shiftRight_eq_div_pow] at h9; exact h9) ?_
  refine ql (.pointer (some ⟨0, (2 ^ Lib.ctz 64 x * 285870213051353865 % 18446744073709551616 / 288230376151711744), none⟩)) (by kernel_rfl) (R_idxArr (g := 0) (m := (2 ^ Lib.ctz 64 x * 285870213051353865 % 18446744073709551616 / 288230376151711744)) (k := .u64) (by kernel_rfl) (by kernel_rfl) Tryd.underlying65 (by kernel_rfl) hi) ?_
  refine ql (.int .u8 ((Lib.ctz 64 x : Nat) : Int)) (by kernel_rfl) (R_load (p := ⟨0, (2 ^ Lib.ctz 64 x * 285870213051353865 % 18446744073709551616 / 288230376151711744), none⟩) (by kernel_rfl) (by kernel_rfl) (by kernel_rfl) (HS.old0 hcell)) ?_
  refine ql (.int .i64 ((Lib.ctz 64 x : Nat) : Int)) (by kernel_rfl) (R_int (by kernel_rfl) (w64 (by omega))) ?_
  refine ql (.int .i64 ((Lib.ctz 64 x : Nat) : Int)) (by kernel_rfl) (by kernel_rfl) ?_
  refine wpList_nil ?_
  refine x_then ?_
  refine wp_ret ?_
  refine ret_ (.int .i64 ((Lib.ctz 64 x : Nat) : Int)) (by kernel_rfl) ?_
  exact ⟨rfl, HS⟩


theorem rep_zero {n : Int} {k : Nat} (h0 : 0 ≤ n) (hk : (k : Int) = (n + 63) / 64) : Rep (List.replicate k 0) n [] := by
  refine ⟨by rw [List.length_replicate]; exact hk, h0, fun w hw => ?_, fun i h0 h1 => ?_, List.Pairwise.nil, fun x hx => by simp at hx⟩
  · obtain ⟨_, rfl⟩ := List.mem_replicate.1 hw
    exact u_lit 0 (by decide)
  · have e : rdI (List.replicate k 0) (i / 64) = 0 := by
      unfold rdI
      rw [List.getD_eq_getElem?_getD, List.getElem?_replicate]
      split <;> rfl
    unfold bitI tb
    rw [e, show (0 : Int).toNat = 0 from rfl, Nat.zero_testBit]
    simp

set_option maxRecDepth 100000 in
set_option maxHeartbeats 1000000 in
theorem dnew_arg (n : Int) (W : World) (hn : n < 0) : Calls Tryd.prog 7 #[.int .i64 n] W fun e W' => e = .returned (.tuple #[.pointer none, .int .i64 2]) ∧ St W (owns []) W' [] := by
  have HS : St W (owns []) W [] := St.start W _
  refine calls_enter [.int .i64 n, undef, undef, undef, undef, undef, undef, undef, undef, undef, undef, undef, undef, undef, undef, undef, undef, undef] Tryd.func7 rfl (by kernel_rfl) ?_
  refine wp_seq ?_
  refine wp_region_lit ?_
  refine ql (.pointer none) (by kernel_rfl) (by kernel_rfl) ?_
  refine ql (.int .i64 0) (by kernel_rfl) (by kernel_rfl) ?_
  refine wpList_nil ?_
  refine x_then ?_
  refine wp_seq ?_
  refine wp_block ?_
  refine wp_seq ?_
  refine wp_region_lit ?_
  refine ql (.int .i64 n) (by kernel_rfl) (by kernel_rfl) ?_
  refine ql (.bool true) (by kernel_rfl) (R_bool (p := n < (0 : Int)) (by kernel_rfl) (by omega)) ?_
  refine ql (.bool true) (by kernel_rfl) (by kernel_rfl) ?_
  refine wpList_nil ?_
  refine x_then ?_
  refine wp_cond_true (by kernel_rfl) ?_
  refine wp_seq ?_
  refine wp_region_lit ?_
  refine ql (.pointer none) (by kernel_rfl) (by kernel_rfl) ?_
  refine ql (.int .i64 2) (by kernel_rfl) (by kernel_rfl) ?_
  refine wpList_nil ?_
  refine x_then ?_
  refine wp_ret ?_
  refine x_inbR ?_
  refine x_thenR ?_
  refine ret_ (.tuple #[.pointer none, .int .i64 2]) (by kernel_rfl) ?_
  exact ⟨rfl, HS⟩

set_option maxRecDepth 100000 in
set_option maxHeartbeats 1000000 in
theorem dnew_over (n : Int) (W : World) (hn : 1048576 < n) : Calls Tryd.prog 7 #[.int .i64 n] W fun e W' => e = .returned (.tuple #[.pointer none, .int .i64 5]) ∧ St W (owns []) W' [] := by
  have HS : St W (owns []) W [] := St.start W _
  refine calls_enter [.int .i64 n, undef, undef, undef, undef, undef, undef, undef, undef, undef, undef, undef, undef, undef, undef, undef, undef, undef] Tryd.func7 rfl (by kernel_rfl) ?_
  refine wp_seq ?_
  refine wp_region_lit ?_
  refine ql (.pointer none) (by kernel_rfl) (by kernel_rfl) ?_
  refine ql (.int .i64 0) (by kernel_rfl) (by kernel_rfl) ?_
  refine wpList_nil ?_
  refine x_then ?_
  refine wp_seq ?_
  refine wp_block ?_
  refine wp_seq ?_
  refine wp_region_lit ?_
  refine ql (.int .i64 n) (by kernel_rfl) (by kernel_rfl) ?_
  refine ql (.bool false) (by kernel_rfl) (R_nbool (p := n < (0 : Int)) (by kernel_rfl) (by omega)) ?_
  refine ql (.bool false) (by kernel_rfl) (by kernel_rfl) ?_
  refine wpList_nil ?_
  refine x_then ?_
  refine wp_cond_false (by kernel_rfl) ?_
  refine wp_seq ?_
  refine wp_region_lit ?_
  refine ql (.int .i64 n) (by kernel_rfl) (by kernel_rfl) ?_
  refine ql (.bool true) (by kernel_rfl) (R_bool (p := n > (1048576 : Int)) (by kernel_rfl) (by omega)) ?_
  refine ql (.bool true) (by kernel_rfl) (by kernel_rfl) ?_
  refine wpList_nil ?_
  refine x_then ?_
  refine wp_cond_true (by kernel_rfl) ?_
  refine wp_seq ?_
  refine wp_region_lit ?_
  refine ql (.pointer none) (by kernel_rfl) (by kernel_rfl) ?_
  refine ql (.int .i64 5) (by kernel_rfl) (by kernel_rfl) ?_
  refine wpList_nil ?_
  refine x_then ?_
  refine wp_ret ?_
  refine x_inbR ?_
  refine x_thenR ?_
  refine ret_ (.tuple #[.pointer none, .int .i64 5]) (by kernel_rfl) ?_
  exact ⟨rfl, HS⟩

set_option maxRecDepth 100000 in
set_option maxHeartbeats 1000000 in
theorem dnew_ok (n : Int) (W : World) (h0 : 0 ≤ n) (h1 : n ≤ 1048576) : Calls Tryd.prog 7 #[.int .i64 n] W fun e W' => ∃ g a c ws, e = .returned (.tuple #[.pointer (some ⟨g, 0, none⟩), .int .i64 0]) ∧ St W (owns []) W' [blk g [.slice (some ⟨a, 0, none⟩) ws.length c, .int .i64 n] 53, row (some ⟨a, 0, none⟩) ws.length c (ci .u64 ws) 54 1] ∧ Rep ws n [] := by
  have HS : St W (owns []) W [] := St.start W _
  refine calls_enter [.int .i64 n, undef, undef, undef, undef, undef, undef, undef, undef, undef, undef, undef, undef, undef, undef, undef, undef, undef] Tryd.func7 rfl (by kernel_rfl) ?_
  refine wp_seq ?_
  refine wp_region_lit ?_
  refine ql (.pointer none) (by kernel_rfl) (by kernel_rfl) ?_
  refine ql (.int .i64 0) (by kernel_rfl) (by kernel_rfl) ?_
  refine wpList_nil ?_
  refine x_then ?_
  refine wp_seq ?_
  refine wp_block ?_
  refine wp_seq ?_
  refine wp_region_lit ?_
  refine ql (.int .i64 n) (by kernel_rfl) (by kernel_rfl) ?_
  refine ql (.bool false) (by kernel_rfl) (R_nbool (p := n < (0 : Int)) (by kernel_rfl) (by omega)) ?_
  refine ql (.bool false) (by kernel_rfl) (by kernel_rfl) ?_
  refine wpList_nil ?_
  refine x_then ?_
  refine wp_cond_false (by kernel_rfl) ?_
  refine wp_seq ?_
  refine wp_region_lit ?_
  refine ql (.int .i64 n) (by kernel_rfl) (by kernel_rfl) ?_
  refine ql (.bool false) (by kernel_rfl) (R_nbool (p := n > (1048576 : Int)) (by kernel_rfl) (by omega)) ?_
  refine ql (.bool false) (by kernel_rfl) (by kernel_rfl) ?_
  refine wpList_nil ?_
  refine x_then ?_
  refine wp_cond_false (by kernel_rfl) ?_
  refine wp_skip ?_
  refine x_inb ?_
  refine x_then ?_
  refine wp_seq ?_
  refine wp_region_lit ?_
  refine ql (.int .i64 n) (by kernel_rfl) (by kernel_rfl) ?_
  refine ql (.int .i64 (n + 64)) (by kernel_rfl) (R_int (by kernel_rfl) (w64 (by omega))) ?_
  refine ql (.int .i64 ((n + 64) - 1)) (by kernel_rfl) (R_int (by kernel_rfl) (w64 (by omega))) ?_
  refine ql (.int .i64 (((n + 64) - 1) / 64)) (by kernel_rfl) (R_quo (by kernel_rfl) (by kernel_rfl) (by omega) (by omega) (by decide)) ?_
  refine km HS ((((n + 64) - 1) / 64).toNat) [.int .u64 0] 8 (by kernel_rfl) (k_eq (k := .i64) (m := ((n + 64) - 1) / 64) (by kernel_rfl) (by omega)) (k_eq (k := .i64) (m := ((n + 64) - 1) / 64) (by kernel_rfl) (by omega)) Tryd.underlying51 (by kernel_rfl) (by kernel_rfl) (by kernel_rfl) (by decide) (by omega) (by omega) ?_
  intro g1 W2 H_
  replace HS : St W (owns []) W2 [row (some ⟨g1, 0, none⟩) ((((n + 64) - 1) / 64).toNat) ((((n + 64) - 1) / 64).toNat) (ci .u64 (List.replicate ((((n + 64) - 1) / 64).toNat) 0)) 54 1] := H_.cast_ (by rw [ci_rep]; rfl)
  clear H_
  have rlg1 : (List.replicate ((((n + 64) - 1) / 64).toNat) (0 : Int)).length = (((n + 64) - 1) / 64).toNat := List.length_replicate
  refine ql (.int .i64 n) (by kernel_rfl) (by kernel_rfl) ?_
  refine ql (.agg #[.slice (some ⟨g1, 0, none⟩) ((((n + 64) - 1) / 64).toNat) ((((n + 64) - 1) / 64).toNat), .int .i64 n]) (by kernel_rfl) (by kernel_rfl) ?_
  refine kb HS [.slice (some ⟨g1, 0, none⟩) ((((n + 64) - 1) / 64).toNat) ((((n + 64) - 1) / 64).toNat), .int .i64 n] 53 (fun g => .pointer (some ⟨g, 0, none⟩)) (by kernel_rfl) (by kernel_rfl) ?_
  intro g3 W4 H_
  replace HS : St W (owns []) W4 [blk g3 [.slice (some ⟨g1, 0, none⟩) ((((n + 64) - 1) / 64).toNat) ((((n + 64) - 1) / 64).toNat), .int .i64 n] 53, row (some ⟨g1, 0, none⟩) ((((n + 64) - 1) / 64).toNat) ((((n + 64) - 1) / 64).toNat) (ci .u64 (List.replicate ((((n + 64) - 1) / 64).toNat) 0)) 54 1] := H_
  clear H_
  refine ql (.pointer (some ⟨g3, 0, none⟩)) (by kernel_rfl) (by kernel_rfl) ?_
  refine ql (.int .i64 0) (by kernel_rfl) (by kernel_rfl) ?_
  refine wpList_nil ?_
  refine x_then ?_
  refine wp_ret ?_
  refine ret_ (.tuple #[.pointer (some ⟨g3, 0, none⟩), .int .i64 0]) (by kernel_rfl) ?_
  obtain ⟨ws, hws⟩ : ∃ z_ : List Int, z_ = List.replicate ((((n + 64) - 1) / 64).toNat) 0 := ⟨_, rfl⟩
  have hR : Rep ws n [] := by rw [hws]; exact rep_zero h0 (by omega)
  have hl : ((((n + 64) - 1) / 64).toNat) = ws.length := by rw [hws, List.length_replicate]
  rw [← hws] at HS
  rw [hl] at HS
  exact ⟨_, _, _, ws, by first | rfl | (rw [hl]), HS, hR⟩

set_option maxRecDepth 100000 in
set_option maxHeartbeats 1000000 in
theorem dadd_new (g c : Nat) (A : Option Addr) (ws : List Int) (n : Int) (L : List Int) (i : Int) (W : World) (M : Nat → Prop) (HS : St W M W [blk g [.slice A ws.length c, .int .i64 n] 53, row A ws.length c (ci .u64 ws) 54 1]) (hR : Rep ws n L) (hn : n ≤ 1048576) (h0 : 0 ≤ i) (h1 : i < n) (hi : i ∉ L) : Calls Tryd.prog 8 #[.pointer (some ⟨g, 0, none⟩), .int .i64 i] W fun e W' => ∃ ws', e = .returned (.bool true) ∧ St W M W' [blk g [.slice A ws'.length c, .int .i64 n] 53, row A ws'.length c (ci .u64 ws') 54 1] ∧ Rep ws' n (ins i L) := by
  have hix := hR.idx h0 h1
  refine calls_enter [.pointer (some ⟨g, 0, none⟩), .int .i64 i, undef, undef, undef, undef, undef, undef, undef, undef, undef, undef, undef, undef, undef, undef, undef, undef, undef, undef, undef, undef, undef, undef, undef, undef, undef] Tryd.func8 rfl (by kernel_rfl) ?_
  refine wp_seq ?_
  refine wp_region_lit ?_
  refine ql (.bool false) (by kernel_rfl) (by kernel_rfl) ?_
  refine wpList_nil ?_
  refine x_then ?_
  refine wp_seq ?_
  refine wp_seq ?_
  refine wp_region_lit ?_
  refine ql (.pointer (some ⟨g, 0, none⟩)) (by kernel_rfl) (by kernel_rfl) ?_
  refine ql (.int .i64 i) (by kernel_rfl) (by kernel_rfl) ?_
  refine qc (f := 25) (args := #[.pointer (some ⟨g, 0, none⟩), .int .i64 i]) (by kernel_rfl) (R_call #[.pointer (some ⟨g, 0, none⟩), .int .i64 i] Tryd.func25 (by kernel_rfl) (by kernel_rfl) (by kernel_rfl)) ?_
  refine (dis_t _ _ i _ (HS.cell (i := 0) (j := 1) rfl rfl) h0 h1).mono ?_
  rintro e W1 ⟨rfl, H_⟩
  refine ⟨_, rfl, ?_⟩
  replace HS : St W M W1 [blk g [.slice A ws.length c, .int .i64 n] 53, row A ws.length c (ci .u64 ws) 54 1] := HS.join (F := []) (G := []) H_
  clear H_
  refine ql (.bool false) (by kernel_rfl) (by kernel_rfl) ?_
  refine ql (.bool false) (by kernel_rfl) (by kernel_rfl) ?_
  refine ql (.pointer (some ⟨g, 0, none⟩)) (by kernel_rfl) (by kernel_rfl) ?_
  refine ql (.int .i64 i) (by kernel_rfl) (by kernel_rfl) ?_
  refine qc (f := 15) (args := #[.pointer (some ⟨g, 0, none⟩), .int .i64 i]) (by kernel_rfl) (R_call #[.pointer (some ⟨g, 0, none⟩), .int .i64 i] Tryd.func15 (by kernel_rfl) (by kernel_rfl) (by kernel_rfl)) ?_
  refine (dhas_f g c A ws n L i _ (HS.cell (i := 0) (j := 0) rfl rfl) (HS.cell (i := 0) (j := 1) rfl rfl) (Rd.row HS (i := 1) rfl) hR hn h0 h1 hi).mono ?_
  rintro e W2 ⟨rfl, H_⟩
  refine ⟨_, rfl, ?_⟩
  replace HS : St W M W2 [blk g [.slice A ws.length c, .int .i64 n] 53, row A ws.length c (ci .u64 ws) 54 1] := HS.join (F := []) (G := []) H_
  clear H_
  refine ql (.bool false) (by kernel_rfl) (by kernel_rfl) ?_
  refine wpList_nil ?_
  refine x_then ?_
  refine wp_cond_false (by kernel_rfl) ?_
  refine wp_skip ?_
  refine x_then ?_
  refine wp_seq ?_
  refine rg_still HS 13 (by kernel_rfl) (by kernel_rfl) ?_
  intro W3 H_ HK_
  simp only [List.take_succ_cons, List.take_zero, List.drop_succ_cons, List.drop_zero]
  replace HS : St W M W3 [blk g [.slice A ws.length c, .int .i64 n] 53, row A ws.length c (ci .u64 ws) 54 1] := H_
  clear H_
  clear HK_
  refine qs (.pointer (some ⟨g, 0, none⟩)) (by kernel_rfl) (by kernel_rfl) ?_
  refine qs (.pointer (some ⟨g, 0, none⟩)) (by kernel_rfl) (by kernel_rfl) ?_
  refine qs (.pointer (some ⟨g, 0, none⟩)) (by kernel_rfl) (by kernel_rfl) ?_
  refine qs (.slice A ws.length c) (by kernel_rfl) (R_load (p := ⟨g, 0, none⟩) (by kernel_rfl) (by kernel_rfl) (by kernel_rfl) (HS.cell (i := 0) (j := 0) rfl rfl)) ?_
  refine qs (.int .i64 i) (by kernel_rfl) (by kernel_rfl) ?_
  refine qs (.int .i64 (i / 64)) (by kernel_rfl) (R_quo (by kernel_rfl) (by kernel_rfl) (by omega) (by omega) (by decide)) ?_
  obtain ⟨g4, rfl⟩ := St.rsome HS (i := 1) rfl (by omega)
  refine qs (.pointer (some ⟨g4, (i / 64).toNat, none⟩)) (by kernel_rfl) (R_index1 (k := .i64) (g := g4) (n := ws.length) (c := c) (i := i / 64) (by kernel_rfl) (by kernel_rfl) Tryd.underlying51 (by kernel_rfl) (by omega) (by omega)) ?_
  refine qs (.int .u64 (rdI ws (i / 64))) (by kernel_rfl) (R_load (p := ⟨g4, (i / 64).toNat, none⟩) (by kernel_rfl) (by kernel_rfl) (by kernel_rfl) (HS.rcell (i := 1) rfl (ci_rd (i := i / 64) (by omega) (by omega)))) ?_
  refine qs (.int .i64 i) (by kernel_rfl) (by kernel_rfl) ?_
  refine qs (.int .i64 (i % 64)) (by kernel_rfl) (R_rem2 (by kernel_rfl) (by kernel_rfl) (by omega) (by omega) (by decide)) ?_
  refine qs (.int .u64 (shlW 1 (i % 64))) (by kernel_rfl) (R_shl (k2 := .i64) (by kernel_rfl) (by kernel_rfl) (u_lit 1 (by decide)) (by omega) (by omega)) ?_
  refine qs (.int .u64 (orW (rdI ws (i / 64)) (shlW 1 (i % 64)))) (by kernel_rfl) (R_or (by kernel_rfl) (by kernel_rfl) (hR.rd_at h0 h1) u_shl) ?_
  refine qs (.pointer (some ⟨g4, (i / 64).toNat, none⟩)) (by kernel_rfl) (R_index1 (k := .i64) (g := g4) (n := ws.length) (c := c) (i := i / 64) (by kernel_rfl) (by kernel_rfl) Tryd.underlying51 (by kernel_rfl) (by omega) (by omega)) ?_
  refine wpStill_nil ?_
  refine kr (v := .int .u64 (orW (rdI ws (i / 64)) (shlW 1 (i % 64)))) HS 1 rfl ((i / 64).toNat) [.int .u64 (orW (rdI ws (i / 64)) (shlW 1 (i % 64)))] (by kernel_rfl) (by kernel_rfl) (by kernel_rfl) (by kernel_rfl) (by kernel_rfl) (one_ (by kernel_rfl)) (by rw [ci_len]; first | omega | (simp only [List.length_singleton]; omega)) rfl ?_
  intro W5 H_
  obtain ⟨xs6, xs6_⟩ : ∃ z_ : List Int, z_ = (ws).set (i / 64).toNat (orW (rdI ws (i / 64)) (shlW 1 (i % 64))) := ⟨_, rfl⟩
  replace HS : St W M W5 [blk g [.slice (some ⟨g4, 0, none⟩) ws.length c, .int .i64 n] 53, row (some ⟨g4, 0, none⟩) ws.length c (ci .u64 xs6) 54 1] := H_.cast_ (by rw [xs6_, ← ci_set]; rfl)
  clear H_
  have xs6l : xs6.length = ws.length := by rw [xs6_, List.length_set]; first | done | omega
  refine wpList_nil ?_
  refine x_then ?_
  refine wp_seq ?_
  refine wp_region_lit ?_
  refine ql (.bool true) (by kernel_rfl) (by kernel_rfl) ?_
  refine wpList_nil ?_
  refine x_then ?_
  refine wp_ret ?_
  refine ret_ (.bool true) (by kernel_rfl) ?_
  have hq : Rep xs6 n (ins i L) := by rw [xs6_]; exact hR.add h0 h1 hi
  rw [← xs6l] at HS
  exact ⟨xs6, rfl, HS, hq⟩

set_option maxRecDepth 100000 in
set_option maxHeartbeats 1000000 in
theorem dadd_old (g c : Nat) (A : Option Addr) (ws : List Int) (n : Int) (L : List Int) (i : Int) (W : World) (M : Nat → Prop) (HS : St W M W [blk g [.slice A ws.length c, .int .i64 n] 53, row A ws.length c (ci .u64 ws) 54 1]) (hR : Rep ws n L) (hn : n ≤ 1048576) (hi : i ∈ L) : Calls Tryd.prog 8 #[.pointer (some ⟨g, 0, none⟩), .int .i64 i] W fun e W' => e = .returned (.bool false) ∧ St W M W' [blk g [.slice A ws.length c, .int .i64 n] 53, row A ws.length c (ci .u64 ws) 54 1] := by
  refine calls_enter [.pointer (some ⟨g, 0, none⟩), .int .i64 i, undef, undef, undef, undef, undef, undef, undef, undef, undef, undef, undef, undef, undef, undef, undef, undef, undef, undef, undef, undef, undef, undef, undef, undef, undef] Tryd.func8 rfl (by kernel_rfl) ?_
  refine wp_seq ?_
  refine wp_region_lit ?_
  refine ql (.bool false) (by kernel_rfl) (by kernel_rfl) ?_
  refine wpList_nil ?_
  refine x_then ?_
  refine wp_seq ?_
  refine wp_seq ?_
  refine wp_region_lit ?_
  refine ql (.pointer (some ⟨g, 0, none⟩)) (by kernel_rfl) (by kernel_rfl) ?_
  refine ql (.int .i64 i) (by kernel_rfl) (by kernel_rfl) ?_
  refine qc (f := 25) (args := #[.pointer (some ⟨g, 0, none⟩), .int .i64 i]) (by kernel_rfl) (R_call #[.pointer (some ⟨g, 0, none⟩), .int .i64 i] Tryd.func25 (by kernel_rfl) (by kernel_rfl) (by kernel_rfl)) ?_
  refine (dis_t _ _ i _ (HS.cell (i := 0) (j := 1) rfl rfl) (hR.lim i hi).1 (hR.lim i hi).2).mono ?_
  rintro e W1 ⟨rfl, H_⟩
  refine ⟨_, rfl, ?_⟩
  replace HS : St W M W1 [blk g [.slice A ws.length c, .int .i64 n] 53, row A ws.length c (ci .u64 ws) 54 1] := HS.join (F := []) (G := []) H_
  clear H_
  refine ql (.bool false) (by kernel_rfl) (by kernel_rfl) ?_
  refine ql (.bool false) (by kernel_rfl) (by kernel_rfl) ?_
  refine ql (.pointer (some ⟨g, 0, none⟩)) (by kernel_rfl) (by kernel_rfl) ?_
  refine ql (.int .i64 i) (by kernel_rfl) (by kernel_rfl) ?_
  refine qc (f := 15) (args := #[.pointer (some ⟨g, 0, none⟩), .int .i64 i]) (by kernel_rfl) (R_call #[.pointer (some ⟨g, 0, none⟩), .int .i64 i] Tryd.func15 (by kernel_rfl) (by kernel_rfl) (by kernel_rfl)) ?_
  refine (dhas_t g c A ws n L i _ (HS.cell (i := 0) (j := 0) rfl rfl) (HS.cell (i := 0) (j := 1) rfl rfl) (Rd.row HS (i := 1) rfl) hR hn hi).mono ?_
  rintro e W2 ⟨rfl, H_⟩
  refine ⟨_, rfl, ?_⟩
  replace HS : St W M W2 [blk g [.slice A ws.length c, .int .i64 n] 53, row A ws.length c (ci .u64 ws) 54 1] := HS.join (F := []) (G := []) H_
  clear H_
  refine ql (.bool true) (by kernel_rfl) (by kernel_rfl) ?_
  refine wpList_nil ?_
  refine x_then ?_
  refine wp_cond_true (by kernel_rfl) ?_
  refine wp_seq ?_
  refine wp_region_lit ?_
  refine ql (.bool false) (by kernel_rfl) (by kernel_rfl) ?_
  refine wpList_nil ?_
  refine x_then ?_
  refine wp_ret ?_
  refine x_thenR ?_
  refine ret_ (.bool false) (by kernel_rfl) ?_
  exact ⟨rfl, HS⟩

set_option maxRecDepth 100000 in
set_option maxHeartbeats 1000000 in
theorem dadd_out (g c : Nat) (A : Option Addr) (ws : List Int) (n : Int) (L : List Int) (i : Int) (W : World) (M : Nat → Prop) (HS : St W M W [blk g [.slice A ws.length c, .int .i64 n] 53, row A ws.length c (ci .u64 ws) 54 1]) (hR : Rep ws n L) (hn : n ≤ 1048576) (ho : i < 0 ∨ n ≤ i) : Calls Tryd.prog 8 #[.pointer (some ⟨g, 0, none⟩), .int .i64 i] W fun e W' => e = .returned (.bool false) ∧ St W M W' [blk g [.slice A ws.length c, .int .i64 n] 53, row A ws.length c (ci .u64 ws) 54 1] := by
  refine calls_enter [.pointer (some ⟨g, 0, none⟩), .int .i64 i, undef, undef, undef, undef, undef, undef, undef, undef, undef, undef, undef, undef, undef, undef, undef, undef, undef, undef, undef, undef, undef, undef, undef, undef, undef] Tryd.func8 rfl (by kernel_rfl) ?_
  refine wp_seq ?_
  refine wp_region_lit ?_
  refine ql (.bool false) (by kernel_rfl) (by kernel_rfl) ?_
  refine wpList_nil ?_
  refine x_then ?_
  refine wp_seq ?_
  refine wp_seq ?_
  refine wp_region_lit ?_
  refine ql (.pointer (some ⟨g, 0, none⟩)) (by kernel_rfl) (by kernel_rfl) ?_
  refine ql (.int .i64 i) (by kernel_rfl) (by kernel_rfl) ?_
  refine qc (f := 25) (args := #[.pointer (some ⟨g, 0, none⟩), .int .i64 i]) (by kernel_rfl) (R_call #[.pointer (some ⟨g, 0, none⟩), .int .i64 i] Tryd.func25 (by kernel_rfl) (by kernel_rfl) (by kernel_rfl)) ?_
  refine (dis_f _ _ i _ (HS.cell (i := 0) (j := 1) rfl rfl) ho).mono ?_
  rintro e W1 ⟨rfl, H_⟩
  refine ⟨_, rfl, ?_⟩
  replace HS : St W M W1 [blk g [.slice A ws.length c, .int .i64 n] 53, row A ws.length c (ci .u64 ws) 54 1] := HS.join (F := []) (G := []) H_
  clear H_
  refine ql (.bool true) (by kernel_rfl) (by kernel_rfl) ?_
  refine ql (.bool true) (by kernel_rfl) (by kernel_rfl) ?_
  refine qln (by kernel_rfl) ?_
  refine qln (by kernel_rfl) ?_
  refine qln (by kernel_rfl) ?_
  refine ql (.bool true) (by kernel_rfl) (by kernel_rfl) ?_
  refine wpList_nil ?_
  refine x_then ?_
  refine wp_cond_true (by kernel_rfl) ?_
  refine wp_seq ?_
  refine wp_region_lit ?_
  refine ql (.bool false) (by kernel_rfl) (by kernel_rfl) ?_
  refine wpList_nil ?_
  refine x_then ?_
  refine wp_ret ?_
  refine x_thenR ?_
  refine ret_ (.bool false) (by kernel_rfl) ?_
  exact ⟨rfl, HS⟩

set_option maxRecDepth 100000 in
set_option maxHeartbeats 1000000 in
theorem ddel_old (g c : Nat) (A : Option Addr) (ws : List Int) (n : Int) (L : List Int) (i : Int) (W : World) (M : Nat → Prop) (HS : St W M W [blk g [.slice A ws.length c, .int .i64 n] 53, row A ws.length c (ci .u64 ws) 54 1]) (hR : Rep ws n L) (hn : n ≤ 1048576) (hi : i ∈ L) : Calls Tryd.prog 13 #[.pointer (some ⟨g, 0, none⟩), .int .i64 i] W fun e W' => ∃ ws', e = .returned (.bool true) ∧ St W M W' [blk g [.slice A ws'.length c, .int .i64 n] 53, row A ws'.length c (ci .u64 ws') 54 1] ∧ Rep ws' n (L.filter (fun x => x ≠ i)) := by
  have h0 := (hR.lim i hi).1
  have h1 := (hR.lim i hi).2
  have hix := hR.idx h0 h1
  refine calls_enter [.pointer (some ⟨g, 0, none⟩), .int .i64 i, undef, undef, undef, undef, undef, undef, undef, undef, undef, undef, undef, undef, undef, undef, undef, undef, undef, undef, undef, undef] Tryd.func13 rfl (by kernel_rfl) ?_
  refine wp_seq ?_
  refine wp_region_lit ?_
  refine ql (.bool false) (by kernel_rfl) (by kernel_rfl) ?_
  refine wpList_nil ?_
  refine x_then ?_
  refine wp_seq ?_
  refine wp_seq ?_
  refine wp_region_lit ?_
  refine ql (.pointer (some ⟨g, 0, none⟩)) (by kernel_rfl) (by kernel_rfl) ?_
  refine ql (.int .i64 i) (by kernel_rfl) (by kernel_rfl) ?_
  refine qc (f := 15) (args := #[.pointer (some ⟨g, 0, none⟩), .int .i64 i]) (by kernel_rfl) (R_call #[.pointer (some ⟨g, 0, none⟩), .int .i64 i] Tryd.func15 (by kernel_rfl) (by kernel_rfl) (by kernel_rfl)) ?_
  refine (dhas_t g c A ws n L i _ (HS.cell (i := 0) (j := 0) rfl rfl) (HS.cell (i := 0) (j := 1) rfl rfl) (Rd.row HS (i := 1) rfl) hR hn hi).mono ?_
  rintro e W1 ⟨rfl, H_⟩
  refine ⟨_, rfl, ?_⟩
  replace HS : St W M W1 [blk g [.slice A ws.length c, .int .i64 n] 53, row A ws.length c (ci .u64 ws) 54 1] := HS.join (F := []) (G := []) H_
  clear H_
  refine ql (.bool false) (by kernel_rfl) (by kernel_rfl) ?_
  refine wpList_nil ?_
  refine x_then ?_
  refine wp_cond_false (by kernel_rfl) ?_
  refine wp_skip ?_
  refine x_then ?_
  refine wp_seq ?_
  refine rg_still HS 13 (by kernel_rfl) (by kernel_rfl) ?_
  intro W2 H_ HK_
  simp only [List.take_succ_cons, List.take_zero, List.drop_succ_cons, List.drop_zero]
  replace HS : St W M W2 [blk g [.slice A ws.length c, .int .i64 n] 53, row A ws.length c (ci .u64 ws) 54 1] := H_
  clear H_
  clear HK_
  refine qs (.pointer (some ⟨g, 0, none⟩)) (by kernel_rfl) (by kernel_rfl) ?_
  refine qs (.pointer (some ⟨g, 0, none⟩)) (by kernel_rfl) (by kernel_rfl) ?_
  refine qs (.pointer (some ⟨g, 0, none⟩)) (by kernel_rfl) (by kernel_rfl) ?_
  refine qs (.slice A ws.length c) (by kernel_rfl) (R_load (p := ⟨g, 0, none⟩) (by kernel_rfl) (by kernel_rfl) (by kernel_rfl) (HS.cell (i := 0) (j := 0) rfl rfl)) ?_
  refine qs (.int .i64 i) (by kernel_rfl) (by kernel_rfl) ?_
  refine qs (.int .i64 (i / 64)) (by kernel_rfl) (R_quo (by kernel_rfl) (by kernel_rfl) (by omega) (by omega) (by decide)) ?_
  obtain ⟨g3, rfl⟩ := St.rsome HS (i := 1) rfl (by omega)
  refine qs (.pointer (some ⟨g3, (i / 64).toNat, none⟩)) (by kernel_rfl) (R_index1 (k := .i64) (g := g3) (n := ws.length) (c := c) (i := i / 64) (by kernel_rfl) (by kernel_rfl) Tryd.underlying51 (by kernel_rfl) (by omega) (by omega)) ?_
  refine qs (.int .u64 (rdI ws (i / 64))) (by kernel_rfl) (R_load (p := ⟨g3, (i / 64).toNat, none⟩) (by kernel_rfl) (by kernel_rfl) (by kernel_rfl) (HS.rcell (i := 1) rfl (ci_rd (i := i / 64) (by omega) (by omega)))) ?_
  refine qs (.int .i64 i) (by kernel_rfl) (by kernel_rfl) ?_
  refine qs (.int .i64 (i % 64)) (by kernel_rfl) (R_rem2 (by kernel_rfl) (by kernel_rfl) (by omega) (by omega) (by decide)) ?_
  refine qs (.int .u64 (shlW 1 (i % 64))) (by kernel_rfl) (R_shl (k2 := .i64) (by kernel_rfl) (by kernel_rfl) (u_lit 1 (by decide)) (by omega) (by omega)) ?_
  refine qs (.int .u64 (anW (rdI ws (i / 64)) (shlW 1 (i % 64)))) (by kernel_rfl) (R_an (by kernel_rfl) (by kernel_rfl) (hR.rd_at h0 h1) u_shl) ?_
  refine qs (.pointer (some ⟨g3, (i / 64).toNat, none⟩)) (by kernel_rfl) (R_index1 (k := .i64) (g := g3) (n := ws.length) (c := c) (i := i / 64) (by kernel_rfl) (by kernel_rfl) Tryd.underlying51 (by kernel_rfl) (by omega) (by omega)) ?_
  refine wpStill_nil ?_
  refine kr (v := .int .u64 (anW (rdI ws (i / 64)) (shlW 1 (i % 64)))) HS 1 rfl ((i / 64).toNat) [.int .u64 (anW (rdI ws (i / 64)) (shlW 1 (i % 64)))] (by kernel_rfl) (by kernel_rfl) (by kernel_rfl) (by kernel_rfl) (by kernel_rfl) (one_ (by kernel_rfl)) (by rw [ci_len]; first | omega | (simp only [List.length_singleton]; omega)) rfl ?_
  intro W4 H_
  obtain ⟨xs5, xs5_⟩ : ∃ z_ : List Int, z_ = (ws).set (i / 64).toNat (anW (rdI ws (i / 64)) (shlW 1 (i % 64))) := ⟨_, rfl⟩
  replace HS : St W M W4 [blk g [.slice (some ⟨g3, 0, none⟩) ws.length c, .int .i64 n] 53, row (some ⟨g3, 0, none⟩) ws.length c (ci .u64 xs5) 54 1] := H_.cast_ (by rw [xs5_, ← ci_set]; rfl)
  clear H_
  have xs5l : xs5.length = ws.length := by rw [xs5_, List.length_set]; first | done | omega
  refine wpList_nil ?_
  refine x_then ?_
  refine wp_seq ?_
  refine wp_region_lit ?_
  refine ql (.bool true) (by kernel_rfl) (by kernel_rfl) ?_
  refine wpList_nil ?_
  refine x_then ?_
  refine wp_ret ?_
  refine ret_ (.bool true) (by kernel_rfl) ?_
  have hq : Rep xs5 n (L.filter (fun x => x ≠ i)) := by rw [xs5_]; exact hR.del hi
  rw [← xs5l] at HS
  exact ⟨xs5, rfl, HS, hq⟩

set_option maxRecDepth 100000 in
set_option maxHeartbeats 1000000 in
theorem ddel_new (g c : Nat) (A : Option Addr) (ws : List Int) (n : Int) (L : List Int) (i : Int) (W : World) (M : Nat → Prop) (HS : St W M W [blk g [.slice A ws.length c, .int .i64 n] 53, row A ws.length c (ci .u64 ws) 54 1]) (hR : Rep ws n L) (hn : n ≤ 1048576) (hi : i ∉ L) : Calls Tryd.prog 13 #[.pointer (some ⟨g, 0, none⟩), .int .i64 i] W fun e W' => e = .returned (.bool false) ∧ St W M W' [blk g [.slice A ws.length c, .int .i64 n] 53, row A ws.length c (ci .u64 ws) 54 1] := by
  refine calls_enter [.pointer (some ⟨g, 0, none⟩), .int .i64 i, undef, undef, undef, undef, undef, undef, undef, undef, undef, undef, undef, undef, undef, undef, undef, undef, undef, undef, undef, undef] Tryd.func13 rfl (by kernel_rfl) ?_
  refine wp_seq ?_
  refine wp_region_lit ?_
  refine ql (.bool false) (by kernel_rfl) (by kernel_rfl) ?_
  refine wpList_nil ?_
  refine x_then ?_
  refine wp_seq ?_
  refine wp_seq ?_
  refine wp_region_lit ?_
  refine ql (.pointer (some ⟨g, 0, none⟩)) (by kernel_rfl) (by kernel_rfl) ?_
  refine ql (.int .i64 i) (by kernel_rfl) (by kernel_rfl) ?_
  refine qc (f := 15) (args := #[.pointer (some ⟨g, 0, none⟩), .int .i64 i]) (by kernel_rfl) (R_call #[.pointer (some ⟨g, 0, none⟩), .int .i64 i] Tryd.func15 (by kernel_rfl) (by kernel_rfl) (by kernel_rfl)) ?_
  refine (dhas_n g c A ws n L i _ (HS.cell (i := 0) (j := 0) rfl rfl) (HS.cell (i := 0) (j := 1) rfl rfl) (Rd.row HS (i := 1) rfl) hR hn hi).mono ?_
  rintro e W1 ⟨rfl, H_⟩
  refine ⟨_, rfl, ?_⟩
  replace HS : St W M W1 [blk g [.slice A ws.length c, .int .i64 n] 53, row A ws.length c (ci .u64 ws) 54 1] := HS.join (F := []) (G := []) H_
  clear H_
  refine ql (.bool true) (by kernel_rfl) (by kernel_rfl) ?_
  refine wpList_nil ?_
  refine x_then ?_
  refine wp_cond_true (by kernel_rfl) ?_
  refine wp_seq ?_
  refine wp_region_lit ?_
  refine ql (.bool false) (by kernel_rfl) (by kernel_rfl) ?_
  refine wpList_nil ?_
  refine x_then ?_
  refine wp_ret ?_
  refine x_thenR ?_
  refine ret_ (.bool false) (by kernel_rfl) ?_
  exact ⟨rfl, HS⟩

set_option maxRecDepth 100000 in
set_option maxHeartbeats 1000000 in
theorem dcount (g c : Nat) (A : Option Addr) (ws : List Int) (n : Int) (L : List Int) (W : World) (hz0 : W.cell? ⟨g, 0, none⟩ = some (.slice A ws.length c)) (hz1 : W.cell? ⟨g, 1, none⟩ = some (.int .i64 n)) (hr : Rd W A (ci .u64 ws)) (hR : Rep ws n L) (hn : n ≤ 1048576) : Calls Tryd.prog 12 #[.pointer (some ⟨g, 0, none⟩)] W fun e W' => e = .returned (.int .i64 (L.length : Int)) ∧ St W (owns []) W' [] := by
  have HS : St W (owns []) W [] := St.start W _
  have hlen := hR.len
  refine calls_enter [.pointer (some ⟨g, 0, none⟩), undef, undef, undef, undef, undef, undef, undef, undef, undef, undef, undef, undef, undef, undef, undef, undef, undef, undef, undef, undef, undef, undef] Tryd.func12 rfl (by kernel_rfl) ?_
  refine wp_seq ?_
  refine wp_region_lit ?_
  refine ql (.int .i64 0) (by kernel_rfl) (by kernel_rfl) ?_
  refine wpList_nil ?_
  refine x_then ?_
  refine wp_seq ?_
  refine wp_region_lit ?_
  refine ql (.int .i64 0) (by kernel_rfl) (by kernel_rfl) ?_
  refine wpList_nil ?_
  refine x_then ?_
  refine wp_seq ?_
  refine wp_seq ?_
  refine wp_region_lit ?_
  refine ql (.pointer (some ⟨g, 0, none⟩)) (by kernel_rfl) (by kernel_rfl) ?_
  refine ql (.bool true) (by kernel_rfl) (by kernel_rfl) ?_
  refine wpList_nil ?_
  refine x_then ?_
  refine wp_cond_true (by kernel_rfl) ?_
  refine wp_seq ?_
  refine wp_region_lit ?_
  refine ql (.pointer (some ⟨g, 0, none⟩)) (by kernel_rfl) (by kernel_rfl) ?_
  refine ql (.pointer (some ⟨g, 0, none⟩)) (by kernel_rfl) (by kernel_rfl) ?_
  refine ql (.pointer (some ⟨g, 0, none⟩)) (by kernel_rfl) (by kernel_rfl) ?_
  refine ql (.slice A ws.length c) (by kernel_rfl) (R_load (p := ⟨g, 0, none⟩) (by kernel_rfl) (by kernel_rfl) (by kernel_rfl) (HS.old0 hz0)) ?_
  refine ql (.int .i64 (ws.length : Int)) (by kernel_rfl) (by kernel_rfl) ?_
  refine ql (.int .i64 0) (by kernel_rfl) (by kernel_rfl) ?_
  refine wpList_nil ?_
  refine x_then ?_
  refine wp_block ?_
  refine wp_loop_ghost (fun kq a' w' => ∃ (J1 : Nat → Value) (k : Int) (m : Int) , a' = Fr [.pointer (some ⟨g, 0, none⟩), undef, .int .i64 0, .int .i64 m, undef, (J1 5), .pointer (some ⟨g, 0, none⟩), .bool true, .pointer (some ⟨g, 0, none⟩), .pointer (some ⟨g, 0, none⟩), .pointer (some ⟨g, 0, none⟩), .slice A ws.length c, .int .i64 (ws.length : Int), .int .i64 k, (J1 14), (J1 15), (J1 16), (J1 17), (J1 18), (J1 19), (J1 20), (J1 21), undef] ∧ kq = (ws.length - (k).toNat) ∧ (0 ≤ k) ∧ (k ≤ ws.length) ∧ (m = (cntW ws (k).toNat : Nat)) ∧ St W (owns []) w' []) (ws.length - ((0 : Int)).toNat) ⟨(fun k_ : Nat => List.getD [.pointer (some ⟨g, 0, none⟩), undef, .int .i64 0, .int .i64 0, undef, undef, .pointer (some ⟨g, 0, none⟩), .bool true, .pointer (some ⟨g, 0, none⟩), .pointer (some ⟨g, 0, none⟩), .pointer (some ⟨g, 0, none⟩), .slice A ws.length c, .int .i64 (ws.length : Int), .int .i64 0, undef, undef, undef, undef, undef, undef, undef, undef, undef] k_ undef), (0 : Int), (0 : Int), congrArg Fr (by kernel_rfl), rfl, by omega, by omega, rfl, HS⟩ ?_
  clear HS
  intro kq2 a' W3 hrel
  obtain ⟨J1, k, m, rfl, hk, k0, k1, hm, HS⟩ := hrel
  have hcl := cntW_le ws k.toNat
  refine wp_seq ?_
  refine wp_region_lit ?_
  by_cases hc4 : k < (ws.length : Int)
  · skip
    refine ql (.bool true) (by kernel_rfl) (R_bool (p := k < (ws.length : Int)) (by kernel_rfl) (hc4)) ?_
    refine wpList_nil ?_
    refine x_then ?_
    refine wp_seq ?_
    refine wp_cond_true (by kernel_rfl) ?_
    refine wp_skip ?_
    refine x_then ?_
    refine wp_seq ?_
    refine wp_block ?_
    refine wp_seq ?_
    refine wp_region_lit ?_
    obtain ⟨ad5, rfl⟩ := Rd.isSome_ hr (by rw [ci_len]; omega)
    refine ql (.pointer (some (ad5.add k.toNat))) (by kernel_rfl) (R_indexA1 (k := .i64) (p := ad5) (n := ws.length) (c := c) (i := k) (by kernel_rfl) (by kernel_rfl) Tryd.underlying51 (by kernel_rfl) (by omega) (by omega)) ?_
    refine ql (.int .u64 (rdI ws k)) (by kernel_rfl) (R_load (p := ad5.add k.toNat) (by kernel_rfl) (by kernel_rfl) (by kernel_rfl) (HS.old0 (hr.at_ (ci_rd (i := k) (by omega) (by omega))))) ?_
    refine ql (.int .u64 (rdI ws k)) (by kernel_rfl) (by kernel_rfl) ?_
    refine wpList_nil ?_
    refine x_then ?_
    refine wp_region_lit ?_
    refine ql (.int .i64 m) (by kernel_rfl) (by kernel_rfl) ?_
    refine ql (.int .u64 (rdI ws k)) (by kernel_rfl) (by kernel_rfl) ?_
    refine qc (f := 27) (args := #[.int .u64 (rdI ws k)]) (by kernel_rfl) (R_call #[.int .u64 (rdI ws k)] Tryd.func27 (by kernel_rfl) (by kernel_rfl) (by kernel_rfl)) ?_
    obtain ⟨wv, hwv, hwl⟩ := (hR.rd k0 (by omega : k < ws.length)).nat
    rw [hwv]
    refine (ones64 wv _ hwl).mono ?_
    rintro e W6 ⟨rfl, H_⟩
    refine ⟨_, rfl, ?_⟩
    replace HS : St W (owns []) W6 [] := HS.join (F := []) (G := []) H_
    clear H_
    have hpc := pc_le 64 wv
    refine ql (.int .i64 (m + ((pc 64 wv : Nat) : Int))) (by kernel_rfl) (R_int (by kernel_rfl) (w64 (by omega))) ?_
    refine ql (.int .i64 (m + ((pc 64 wv : Nat) : Int))) (by kernel_rfl) (by kernel_rfl) ?_
    refine wpList_nil ?_
    refine x_inb ?_
    refine x_then ?_
    refine wp_region_lit ?_
    refine ql (.int .i64 (k + 1)) (by kernel_rfl) (R_int (by kernel_rfl) (w64 (by omega))) ?_
    refine ql (.int .i64 (k + 1)) (by kernel_rfl) (by kernel_rfl) ?_
    refine wpList_nil ?_
    have hstep : cntW ws (k + 1).toNat = cntW ws k.toNat + pc 64 wv := by rw [show (k + 1).toNat = k.toNat + 1 by omega, cntW_succ, show ((k.toNat : Nat) : Int) = k by omega, hwv, Int.toNat_natCast]
    refine x_then ?_
    exact ⟨ws.length - (k + 1).toNat, by omega, (fun k_ : Nat => List.getD [.pointer (some ⟨g, 0, none⟩), undef, .int .i64 0, .int .i64 (m + ((pc 64 wv : Nat) : Int)), undef, .int .u64 (wv : Int), .pointer (some ⟨g, 0, none⟩), .bool true, .pointer (some ⟨g, 0, none⟩), .pointer (some ⟨g, 0, none⟩), .pointer (some ⟨g, 0, none⟩), .slice (some ad5) ws.length c, .int .i64 (ws.length : Int), .int .i64 (k + 1), .bool true, .pointer (some (ad5.add k.toNat)), .int .u64 (wv : Int), .int .i64 m, .int .u64 (wv : Int), .int .i64 ((pc 64 wv : Nat) : Int), .int .i64 (m + ((pc 64 wv : Nat) : Int)), .int .i64 (k + 1), undef] k_ undef), k + 1, m + ((pc 64 wv : Nat) : Int), congrArg Fr (by kernel_rfl), rfl, by omega, by omega, by omega, HS⟩
  · skip
    refine ql (.bool false) (by kernel_rfl) (R_nbool (p := k < (ws.length : Int)) (by kernel_rfl) (hc4)) ?_
    refine wpList_nil ?_
    refine x_then ?_
    refine wp_seq ?_
    refine wp_cond_false (by kernel_rfl) ?_
    refine wp_exit ?_
    refine x_thenE ?_
    refine x_thenE ?_
    refine x_hit ?_
    refine x_then ?_
    refine wp_seq ?_
    refine wp_region_lit ?_
    refine ql (.int .i64 m) (by kernel_rfl) (by kernel_rfl) ?_
    refine ql (.int .i64 m) (by kernel_rfl) (by kernel_rfl) ?_
    refine wpList_nil ?_
    refine x_then ?_
    refine wp_ret ?_
    refine ret_ (.int .i64 m) (by kernel_rfl) ?_
    have hk9 : k.toNat = ws.length := by omega
    rw [hk9, hR.cnt] at hm
    subst hm
    exact ⟨rfl, HS⟩


theorem TabAt64.old {W0 W : World} {M : Nat → Prop} {L : List Ent} (h : TabAt64 W0) (HS : St W0 M W L) (h0 : 0 < W0.heap.size) (hm : ¬ M 0) : TabAt64 W := fun j hj => by
  have h1 := h j hj
  unfold World.cell? at h1 ⊢
  rw [HS.kept.block 0 h0 hm]
  exact h1
theorem TabAt64.pos {W : World} (h : TabAt64 W) : 0 < W.heap.size := by
  have h1 := h 0 (by decide)
  unfold World.cell? at h1
  refine Nat.pos_of_ne_zero fun e => ?_
  have hn : W.heap[0]? = none := by rw [Array.getElem?_eq_none_iff]; omega
  rw [hn] at h1; simp at h1
theorem TabAt64.old0 {W0 W : World} {L : List Ent} (h : TabAt64 W0) (HS : St W0 (owns []) W L) : TabAt64 W := h.old HS h.pos (by rintro ⟨e, he, _⟩; cases he)
theorem nxt_max {L : List Int} {ws : List Int} {n : Int} (hR : Rep ws n L) (i : Int) : nxt L i = nxt L (max i 0) := by
  by_cases h : i < 0
  · rw [Int.max_eq_right (by omega)]; exact nxt_neg (fun x hx => (hR.lim x hx).1) h
  · rw [Int.max_eq_left (by omega)]
set_option maxRecDepth 100000 in
set_option maxHeartbeats 1000000 in
theorem dnext (g c : Nat) (A : Option Addr) (ws : List Int) (n : Int) (L : List Int) (i : Int) (W : World) (hz0 : W.cell? ⟨g, 0, none⟩ = some (.slice A ws.length c)) (hz1 : W.cell? ⟨g, 1, none⟩ = some (.int .i64 n)) (hr : Rd W A (ci .u64 ws)) (hR : Rep ws n L) (hn : n ≤ 1048576) (hT : TabAt64 W) : Calls Tryd.prog 23 #[.pointer (some ⟨g, 0, none⟩), .int .i64 i] W fun e W' => e = .returned (.int .i64 (nxt L i)) ∧ St W (owns []) W' [] := by
  have HS : St W (owns []) W [] := St.start W _
  obtain ⟨j, hj⟩ : ∃ z_ : Int, z_ = max i 0 := ⟨_, rfl⟩
  have hji : nxt L i = nxt L j := by rw [hj]; exact nxt_max hR i
  have hj0 : 0 ≤ j := by omega
  have hlen := hR.len
  refine calls_enter ((.pointer (some ⟨g, 0, none⟩)) :: (.int .i64 i) :: undef :: undef :: undef :: undef :: undef :: undef :: undef :: undef :: undef :: undef :: undef :: undef :: undef :: undef :: undef :: undef :: undef :: undef :: undef :: undef :: undef :: undef :: undef :: undef :: undef :: undef :: undef :: undef :: undef :: undef :: undef :: undef :: undef :: undef :: undef :: undef :: undef :: undef :: undef :: undef :: undef :: undef :: undef :: undef :: undef :: undef :: undef :: undef :: undef :: []) Tryd.func23 rfl (by kernel_rfl) ?_
  refine wp_seq ?_
  refine wp_region_lit ?_
  refine ql (.int .i64 0) (by kernel_rfl) (by kernel_rfl) ?_
  refine wpList_nil ?_
  refine x_then ?_
  refine wp_seq ?_
  refine wp_region_lit ?_
  refine ql (.int .i64 i) (by kernel_rfl) (by kernel_rfl) ?_
  refine ql (.int .i64 j) (by kernel_rfl) (R_eq (R_max (i := i) (j := 0) (by kernel_rfl) (by kernel_rfl)) (by rw [hj])) ?_
  refine ql (.int .i64 j) (by kernel_rfl) (by kernel_rfl) ?_
  refine wpList_nil ?_
  refine x_then ?_
  refine wp_seq ?_
  refine wp_seq ?_
  refine wp_region_lit ?_
  refine ql (.pointer (some ⟨g, 0, none⟩)) (by kernel_rfl) (by kernel_rfl) ?_
  refine ql (.int .i64 j) (by kernel_rfl) (by kernel_rfl) ?_
  refine qc (f := 25) (args := #[.pointer (some ⟨g, 0, none⟩), .int .i64 j]) (by kernel_rfl) (R_call #[.pointer (some ⟨g, 0, none⟩), .int .i64 j] Tryd.func25 (by kernel_rfl) (by kernel_rfl) (by kernel_rfl)) ?_
  by_cases hjn : j < n
  · skip
    refine (dis_t _ _ j _ (HS.old0 hz1) hj0 hjn).mono ?_
    rintro e W1 ⟨rfl, H_⟩
    refine ⟨_, rfl, ?_⟩
    replace HS : St W (owns []) W1 [] := HS.join (F := []) (G := []) H_
    clear H_
    refine ql (.bool false) (by kernel_rfl) (by kernel_rfl) ?_
    refine wpList_nil ?_
    refine x_then ?_
    refine wp_cond_false (by kernel_rfl) ?_
    refine wp_skip ?_
    refine x_then ?_
    refine wp_seq ?_
    refine wp_region_lit ?_
    refine ql (.int .i64 j) (by kernel_rfl) (by kernel_rfl) ?_
    refine ql (.int .i64 (j / 64)) (by kernel_rfl) (R_quo (by kernel_rfl) (by kernel_rfl) (by omega) (by omega) (by decide)) ?_
    refine ql (.int .i64 (j / 64)) (by kernel_rfl) (by kernel_rfl) ?_
    refine wpList_nil ?_
    refine x_then ?_
    refine wp_seq ?_
    refine wp_region_lit ?_
    refine ql (.pointer (some ⟨g, 0, none⟩)) (by kernel_rfl) (by kernel_rfl) ?_
    refine ql (.pointer (some ⟨g, 0, none⟩)) (by kernel_rfl) (by kernel_rfl) ?_
    refine ql (.pointer (some ⟨g, 0, none⟩)) (by kernel_rfl) (by kernel_rfl) ?_
    refine ql (.slice A ws.length c) (by kernel_rfl) (R_load (p := ⟨g, 0, none⟩) (by kernel_rfl) (by kernel_rfl) (by kernel_rfl) (HS.old0 hz0)) ?_
    refine ql (.int .i64 (j / 64)) (by kernel_rfl) (by kernel_rfl) ?_
    obtain ⟨ad2, rfl⟩ := Rd.isSome_ hr (by rw [ci_len]; omega)
    refine ql (.pointer (some (ad2.add (j / 64).toNat))) (by kernel_rfl) (R_indexA1 (k := .i64) (p := ad2) (n := ws.length) (c := c) (i := j / 64) (by kernel_rfl) (by kernel_rfl) Tryd.underlying51 (by kernel_rfl) (by omega) (by omega)) ?_
    refine ql (.int .u64 (rdI ws (j / 64))) (by kernel_rfl) (R_load (p := ad2.add (j / 64).toNat) (by kernel_rfl) (by kernel_rfl) (by kernel_rfl) (HS.old0 (hr.at_ (ci_rd (i := j / 64) (by omega) (by omega))))) ?_
    refine ql (.int .i64 j) (by kernel_rfl) (by kernel_rfl) ?_
    refine ql (.int .i64 (j % 64)) (by kernel_rfl) (R_rem2 (by kernel_rfl) (by kernel_rfl) (by omega) (by omega) (by decide)) ?_
    refine ql (.int .u64 (shrW (rdI ws (j / 64)) (j % 64))) (by kernel_rfl) (R_shr (k2 := .i64) (by kernel_rfl) (by kernel_rfl) (hR.rd_at hj0 hjn) (by omega) (by omega)) ?_
    refine ql (.int .i64 j) (by kernel_rfl) (by kernel_rfl) ?_
    refine ql (.int .i64 (j % 64)) (by kernel_rfl) (R_rem2 (by kernel_rfl) (by kernel_rfl) (by omega) (by omega) (by decide)) ?_
    refine ql (.int .u64 (shlW (shrW (rdI ws (j / 64)) (j % 64)) (j % 64))) (by kernel_rfl) (R_shl (k2 := .i64) (by kernel_rfl) (by kernel_rfl) (u_shr (hR.rd_at hj0 hjn)) (by omega) (by omega)) ?_
    refine ql (.int .u64 (shlW (shrW (rdI ws (j / 64)) (j % 64)) (j % 64))) (by kernel_rfl) (by kernel_rfl) ?_
    refine wpList_nil ?_
    refine x_then ?_
    refine wp_block ?_
    have hij := hR.idx hj0 hjn
    refine wp_loop_ghost (fun kq a' w' => ∃ (J3 : Nat → Value) (k : Int) (wv : Int) , a' = Fr ((.pointer (some ⟨g, 0, none⟩)) :: (.int .i64 j) :: undef :: undef :: ((J3 4)) :: (.int .i64 k) :: (.int .u64 wv) :: (.int .i64 i) :: (.int .i64 j) :: (.pointer (some ⟨g, 0, none⟩)) :: (.int .i64 j) :: (.bool true) :: (.bool false) :: (.int .i64 j) :: (.int .i64 (j / 64)) :: (.pointer (some ⟨g, 0, none⟩)) :: (.pointer (some ⟨g, 0, none⟩)) :: (.pointer (some ⟨g, 0, none⟩)) :: (.slice (some ad2) ws.length c) :: (.int .i64 (j / 64)) :: (.pointer (some (ad2.add (j / 64).toNat))) :: (.int .u64 (rdI ws (j / 64))) :: (.int .i64 j) :: (.int .i64 (j % 64)) :: (.int .u64 (shrW (rdI ws (j / 64)) (j % 64))) :: (.int .i64 j) :: (.int .i64 (j % 64)) :: (.int .u64 (shlW (shrW (rdI ws (j / 64)) (j % 64)) (j % 64))) :: ((J3 28)) :: ((J3 29)) :: ((J3 30)) :: ((J3 31)) :: ((J3 32)) :: ((J3 33)) :: ((J3 34)) :: ((J3 35)) :: ((J3 36)) :: ((J3 37)) :: ((J3 38)) :: ((J3 39)) :: ((J3 40)) :: ((J3 41)) :: ((J3 42)) :: ((J3 43)) :: ((J3 44)) :: ((J3 45)) :: ((J3 46)) :: ((J3 47)) :: ((J3 48)) :: ((J3 49)) :: ((J3 50)) :: []) ∧ kq = (ws.length - (k).toNat) ∧ (0 ≤ k) ∧ (k < ws.length) ∧ (Nw ws j k wv) ∧ (∀ x ∈ L, j ≤ x → 64 * k ≤ x) ∧ (j < 64 * k + 64) ∧ St W (owns []) w' []) (ws.length - (j / 64).toNat) ⟨(fun k_ : Nat => List.getD ((.pointer (some ⟨g, 0, none⟩)) :: (.int .i64 j) :: undef :: undef :: (.int .i64 0) :: (.int .i64 (j / 64)) :: (.int .u64 (shlW (shrW (rdI ws (j / 64)) (j % 64)) (j % 64))) :: (.int .i64 i) :: (.int .i64 j) :: (.pointer (some ⟨g, 0, none⟩)) :: (.int .i64 j) :: (.bool true) :: (.bool false) :: (.int .i64 j) :: (.int .i64 (j / 64)) :: (.pointer (some ⟨g, 0, none⟩)) :: (.pointer (some ⟨g, 0, none⟩)) :: (.pointer (some ⟨g, 0, none⟩)) :: (.slice (some ad2) ws.length c) :: (.int .i64 (j / 64)) :: (.pointer (some (ad2.add (j / 64).toNat))) :: (.int .u64 (rdI ws (j / 64))) :: (.int .i64 j) :: (.int .i64 (j % 64)) :: (.int .u64 (shrW (rdI ws (j / 64)) (j % 64))) :: (.int .i64 j) :: (.int .i64 (j % 64)) :: (.int .u64 (shlW (shrW (rdI ws (j / 64)) (j % 64)) (j % 64))) :: undef :: undef :: undef :: undef :: undef :: undef :: undef :: undef :: undef :: undef :: undef :: undef :: undef :: undef :: undef :: undef :: undef :: undef :: undef :: undef :: undef :: undef :: undef :: []) k_ undef), j / 64, shlW (shrW (rdI ws (j / 64)) (j % 64)) (j % 64), congrArg Fr (by kernel_rfl), rfl, by omega, by omega, hR.nw_first hj0 hjn, fun x hx h => by omega, by omega, HS⟩ ?_
    clear HS
    intro kq4 a' W5 hrel
    obtain ⟨J3, k, wv, rfl, hk, k0, k1, hw, hlow, hjk, HS⟩ := hrel
    refine wp_seq ?_
    refine wp_block ?_
    refine wp_seq ?_
    refine wp_seq ?_
    refine wp_region_lit ?_
    refine ql (.int .u64 wv) (by kernel_rfl) (by kernel_rfl) ?_
    by_cases hc6 : wv = (0 : Int)
    · skip
      refine ql (.bool false) (by kernel_rfl) (R_beq (b := (wv != (0 : Int))) (by kernel_rfl) (bne_f (hc6))) ?_
      refine wpList_nil ?_
      refine x_then ?_
      refine wp_cond_false (by kernel_rfl) ?_
      refine wp_skip ?_
      refine x_then ?_
      refine wp_seq ?_
      refine wp_region_lit ?_
      refine ql (.int .i64 k) (by kernel_rfl) (by kernel_rfl) ?_
      refine ql (.int .i64 (k + 1)) (by kernel_rfl) (R_int (by kernel_rfl) (w64 (by omega))) ?_
      refine ql (.int .i64 (k + 1)) (by kernel_rfl) (by kernel_rfl) ?_
      refine wpList_nil ?_
      refine x_then ?_
      refine wp_seq ?_
      refine wp_region_lit ?_
      refine ql (.int .i64 (k + 1)) (by kernel_rfl) (by kernel_rfl) ?_
      refine ql (.pointer (some ⟨g, 0, none⟩)) (by kernel_rfl) (by kernel_rfl) ?_
      refine ql (.pointer (some ⟨g, 0, none⟩)) (by kernel_rfl) (by kernel_rfl) ?_
      refine ql (.pointer (some ⟨g, 0, none⟩)) (by kernel_rfl) (by kernel_rfl) ?_
      refine ql (.slice (some ad2) ws.length c) (by kernel_rfl) (R_load (p := ⟨g, 0, none⟩) (by kernel_rfl) (by kernel_rfl) (by kernel_rfl) (HS.old0 hz0)) ?_
      refine ql (.int .i64 (ws.length : Int)) (by kernel_rfl) (by kernel_rfl) ?_
      by_cases hc7 : (k + 1) = (ws.length : Int)
      · skip
        refine ql (.bool true) (by kernel_rfl) (R_beq (b := (k + 1 == (ws.length : Int))) (by kernel_rfl) (beq_t (hc7))) ?_
        refine wpList_nil ?_
        refine x_then ?_
        refine wp_cond_true (by kernel_rfl) ?_
        refine wp_seq ?_
        refine wp_region_lit ?_
        refine ql (.int .i64 (-1)) (by kernel_rfl) (by kernel_rfl) ?_
        refine wpList_nil ?_
        refine x_then ?_
        refine wp_ret ?_
        refine x_inbR ?_
        refine x_thenR ?_
        refine x_thenR ?_
        refine x_inbR ?_
        refine ret_ (.int .i64 (-1)) (by kernel_rfl) ?_
        have hsk := hR.nxt_skip k0 k1 hw hc6 hlow
        exact ⟨by rw [hji, hR.nxt_over (by rw [show (ws.length : Int) = k + 1 by omega]; exact hsk)], HS⟩
      · skip
        refine ql (.bool false) (by kernel_rfl) (R_beq (b := (k + 1 == (ws.length : Int))) (by kernel_rfl) (beq_f (hc7))) ?_
        refine wpList_nil ?_
        refine x_then ?_
        refine wp_cond_false (by kernel_rfl) ?_
        refine wp_skip ?_
        refine x_inb ?_
        refine x_then ?_
        refine wp_region_lit ?_
        refine ql (.pointer (some ⟨g, 0, none⟩)) (by kernel_rfl) (by kernel_rfl) ?_
        refine ql (.pointer (some ⟨g, 0, none⟩)) (by kernel_rfl) (by kernel_rfl) ?_
        refine ql (.pointer (some ⟨g, 0, none⟩)) (by kernel_rfl) (by kernel_rfl) ?_
        refine ql (.slice (some ad2) ws.length c) (by kernel_rfl) (R_load (p := ⟨g, 0, none⟩) (by kernel_rfl) (by kernel_rfl) (by kernel_rfl) (HS.old0 hz0)) ?_
        refine ql (.int .i64 (k + 1)) (by kernel_rfl) (by kernel_rfl) ?_
        refine ql (.pointer (some (ad2.add (k + 1).toNat))) (by kernel_rfl) (R_indexA1 (k := .i64) (p := ad2) (n := ws.length) (c := c) (i := k + 1) (by kernel_rfl) (by kernel_rfl) Tryd.underlying51 (by kernel_rfl) (by omega) (by omega)) ?_
        refine ql (.int .u64 (rdI ws (k + 1))) (by kernel_rfl) (R_load (p := ad2.add (k + 1).toNat) (by kernel_rfl) (by kernel_rfl) (by kernel_rfl) (HS.old0 (hr.at_ (ci_rd (i := k + 1) (by omega) (by omega))))) ?_
        refine ql (.int .u64 (rdI ws (k + 1))) (by kernel_rfl) (by kernel_rfl) ?_
        refine wpList_nil ?_
        refine x_then ?_
        exact ⟨ws.length - (k + 1).toNat, by omega, (fun k_ : Nat => List.getD ((.pointer (some ⟨g, 0, none⟩)) :: (.int .i64 j) :: undef :: undef :: ((J3 4)) :: (.int .i64 (k + 1)) :: (.int .u64 (rdI ws (k + 1))) :: (.int .i64 i) :: (.int .i64 j) :: (.pointer (some ⟨g, 0, none⟩)) :: (.int .i64 j) :: (.bool true) :: (.bool false) :: (.int .i64 j) :: (.int .i64 (j / 64)) :: (.pointer (some ⟨g, 0, none⟩)) :: (.pointer (some ⟨g, 0, none⟩)) :: (.pointer (some ⟨g, 0, none⟩)) :: (.slice (some ad2) ws.length c) :: (.int .i64 (j / 64)) :: (.pointer (some (ad2.add (j / 64).toNat))) :: (.int .u64 (rdI ws (j / 64))) :: (.int .i64 j) :: (.int .i64 (j % 64)) :: (.int .u64 (shrW (rdI ws (j / 64)) (j % 64))) :: (.int .i64 j) :: (.int .i64 (j % 64)) :: (.int .u64 (shlW (shrW (rdI ws (j / 64)) (j % 64)) (j % 64))) :: (.pointer (some ⟨g, 0, none⟩)) :: (.pointer (some ⟨g, 0, none⟩)) :: (.pointer (some ⟨g, 0, none⟩)) :: (.slice (some ad2) ws.length c) :: (.int .i64 (k + 1)) :: (.pointer (some (ad2.add (k + 1).toNat))) :: (.int .u64 (rdI ws (k + 1))) :: (.int .u64 wv) :: (.bool false) :: ((J3 37)) :: ((J3 38)) :: ((J3 39)) :: ((J3 40)) :: ((J3 41)) :: (.int .i64 k) :: (.int .i64 (k + 1)) :: (.int .i64 (k + 1)) :: (.pointer (some ⟨g, 0, none⟩)) :: (.pointer (some ⟨g, 0, none⟩)) :: (.pointer (some ⟨g, 0, none⟩)) :: (.slice (some ad2) ws.length c) :: (.int .i64 (ws.length : Int)) :: (.bool false) :: []) k_ undef), k + 1, rdI ws (k + 1), congrArg Fr (by kernel_rfl), rfl, by omega, by omega, hR.nw_next (by omega) (by omega) (by omega), hR.nxt_skip k0 k1 hw hc6 hlow, by omega, HS⟩
    · skip
      refine ql (.bool true) (by kernel_rfl) (R_beq (b := (wv != (0 : Int))) (by kernel_rfl) (bne_t (hc6))) ?_
      refine wpList_nil ?_
      refine x_then ?_
      refine wp_cond_true (by kernel_rfl) ?_
      refine wp_seq ?_
      refine wp_region_lit ?_
      refine ql (.int .i64 k) (by kernel_rfl) (by kernel_rfl) ?_
      refine ql (.int .i64 (k * 64)) (by kernel_rfl) (R_int (by kernel_rfl) (w64 (by omega))) ?_
      refine ql (.int .u64 wv) (by kernel_rfl) (by kernel_rfl) ?_
      refine qc (f := 35) (args := #[.int .u64 wv]) (by kernel_rfl) (R_call #[.int .u64 wv] Tryd.func35 (by kernel_rfl) (by kernel_rfl) (by kernel_rfl)) ?_
      obtain ⟨wn, hwn, hwl⟩ := hw.1.nat
      subst hwn
      have hf := hR.nxt_found k0 k1 hw (by omega) hlow
      simp only [Int.toNat_natCast] at hf
      obtain ⟨hf1, hf2⟩ := hf
      refine (tz64 wn _ hwl (by omega) (hT.old0 HS)).mono ?_
      rintro e W8 ⟨rfl, H_⟩
      refine ⟨_, rfl, ?_⟩
      replace HS : St W (owns []) W8 [] := HS.join (F := []) (G := []) H_
      clear H_
      refine ql (.int .i64 ((k * 64) + ((Lib.ctz 64 wn : Nat) : Int))) (by kernel_rfl) (R_int (by kernel_rfl) (w64 (by omega))) ?_
      refine ql (.int .i64 ((k * 64) + ((Lib.ctz 64 wn : Nat) : Int))) (by kernel_rfl) (by kernel_rfl) ?_
      refine wpList_nil ?_
      refine x_then ?_
      refine wp_ret ?_
      refine x_thenR ?_
      refine x_inbR ?_
      refine x_thenR ?_
      refine x_thenR ?_
      refine x_inbR ?_
      refine ret_ (.int .i64 ((k * 64) + ((Lib.ctz 64 wn : Nat) : Int))) (by kernel_rfl) ?_
      exact ⟨by rw [hji, hf1], HS⟩
  · skip
    refine (dis_f _ _ j _ (HS.old0 hz1) (by omega)).mono ?_
    rintro e W9 ⟨rfl, H_⟩
    refine ⟨_, rfl, ?_⟩
    replace HS : St W (owns []) W9 [] := HS.join (F := []) (G := []) H_
    clear H_
    refine ql (.bool true) (by kernel_rfl) (by kernel_rfl) ?_
    refine wpList_nil ?_
    refine x_then ?_
    refine wp_cond_true (by kernel_rfl) ?_
    refine wp_seq ?_
    refine wp_region_lit ?_
    refine ql (.int .i64 (-1)) (by kernel_rfl) (by kernel_rfl) ?_
    refine wpList_nil ?_
    refine x_then ?_
    refine wp_ret ?_
    refine x_thenR ?_
    refine ret_ (.int .i64 (-1)) (by kernel_rfl) ?_
    exact ⟨by rw [hji, hR.nxt_out (by omega)], HS⟩


set_option maxRecDepth 100000 in
set_option maxHeartbeats 1000000 in
theorem dor_ne (g c : Nat) (A : Option Addr) (ws : List Int) (n : Int) (h c2 : Nat) (B : Option Addr) (vs : List Int) (m : Int) (W : World) (M_ : Nat → Prop) (HS : St W M_ W [blk g [.slice A ws.length c, .int .i64 n] 53, row A ws.length c (ci .u64 ws) 54 1, blk h [.slice B vs.length c2, .int .i64 m] 53, row B vs.length c2 (ci .u64 vs) 54 1]) (hne : n ≠ m) : Calls Tryd.prog 11 #[.pointer (some ⟨g, 0, none⟩), .pointer (some ⟨h, 0, none⟩)] W fun e W' => e = .returned (.bool false) ∧ St W M_ W' [blk g [.slice A ws.length c, .int .i64 n] 53, row A ws.length c (ci .u64 ws) 54 1, blk h [.slice B vs.length c2, .int .i64 m] 53, row B vs.length c2 (ci .u64 vs) 54 1] := by
  refine calls_enter ((.pointer (some ⟨g, 0, none⟩)) :: (.pointer (some ⟨h, 0, none⟩)) :: undef :: undef :: undef :: undef :: undef :: undef :: undef :: undef :: undef :: undef :: undef :: undef :: undef :: undef :: undef :: undef :: undef :: undef :: undef :: undef :: undef :: undef :: undef :: undef :: undef :: undef :: undef :: undef :: undef :: undef :: undef :: undef :: undef :: undef :: undef :: undef :: undef :: undef :: undef :: undef :: undef :: undef :: undef :: undef :: undef :: undef :: undef :: undef :: undef :: undef :: undef :: undef :: undef :: undef :: undef :: undef :: undef :: []) Tryd.func11 rfl (by kernel_rfl) ?_
  refine wp_seq ?_
  refine wp_region_lit ?_
  refine ql (.bool false) (by kernel_rfl) (by kernel_rfl) ?_
  refine wpList_nil ?_
  refine x_then ?_
  refine wp_seq ?_
  refine wp_seq ?_
  refine rg_still HS 16 (by kernel_rfl) (by kernel_rfl) ?_
  intro W1 H_ HK_
  simp only [List.take_succ_cons, List.take_zero, List.drop_succ_cons, List.drop_zero]
  replace HS : St W M_ W1 [blk g [.slice A ws.length c, .int .i64 n] 53, row A ws.length c (ci .u64 ws) 54 1, blk h [.slice B vs.length c2, .int .i64 m] 53, row B vs.length c2 (ci .u64 vs) 54 1] := H_
  clear H_
  clear HK_
  refine qs (.pointer (some ⟨g, 0, none⟩)) (by kernel_rfl) (by kernel_rfl) ?_
  refine qs (.bool false) (by kernel_rfl) (by kernel_rfl) ?_
  refine qs (.bool false) (by kernel_rfl) (by kernel_rfl) ?_
  refine qs (.pointer (some ⟨h, 0, none⟩)) (by kernel_rfl) (by kernel_rfl) ?_
  refine qs (.bool false) (by kernel_rfl) (by kernel_rfl) ?_
  refine qs (.bool false) (by kernel_rfl) (by kernel_rfl) ?_
  refine qs (.bool false) (by kernel_rfl) (by kernel_rfl) ?_
  refine qs (.pointer (some ⟨g, 0, none⟩)) (by kernel_rfl) (by kernel_rfl) ?_
  refine qs (.pointer (some ⟨g, 0, none⟩)) (by kernel_rfl) (by kernel_rfl) ?_
  refine qs (.pointer (some ⟨g, 1, none⟩)) (by kernel_rfl) (by kernel_rfl) ?_
  refine qs (.int .i64 n) (by kernel_rfl) (R_load (p := ⟨g, 1, none⟩) (by kernel_rfl) (by kernel_rfl) (by kernel_rfl) (HS.cell (i := 0) (j := 1) rfl rfl)) ?_
  refine qs (.pointer (some ⟨h, 0, none⟩)) (by kernel_rfl) (by kernel_rfl) ?_
  refine qs (.pointer (some ⟨h, 0, none⟩)) (by kernel_rfl) (by kernel_rfl) ?_
  refine qs (.pointer (some ⟨h, 1, none⟩)) (by kernel_rfl) (by kernel_rfl) ?_
  refine qs (.int .i64 m) (by kernel_rfl) (R_load (p := ⟨h, 1, none⟩) (by kernel_rfl) (by kernel_rfl) (by kernel_rfl) (HS.cell (i := 2) (j := 1) rfl rfl)) ?_
  refine qs (.bool true) (by kernel_rfl) (R_beq (b := (n != m)) (by kernel_rfl) (bne_t (by omega))) ?_
  refine wpStill_nil ?_
  refine ql (.bool true) (by kernel_rfl) (by kernel_rfl) ?_
  refine wpList_nil ?_
  refine x_then ?_
  refine wp_cond_true (by kernel_rfl) ?_
  refine wp_seq ?_
  refine wp_region_lit ?_
  refine ql (.bool false) (by kernel_rfl) (by kernel_rfl) ?_
  refine wpList_nil ?_
  refine x_then ?_
  refine wp_ret ?_
  refine x_thenR ?_
  refine ret_ (.bool false) (by kernel_rfl) ?_
  exact ⟨rfl, HS⟩

set_option maxRecDepth 100000 in
set_option maxHeartbeats 1000000 in
theorem dor (g c : Nat) (A : Option Addr) (ws : List Int) (n : Int) (h c2 : Nat) (B : Option Addr) (vs : List Int) (L M : List Int) (W : World) (M_ : Nat → Prop) (HS : St W M_ W [blk g [.slice A ws.length c, .int .i64 n] 53, row A ws.length c (ci .u64 ws) 54 1, blk h [.slice B vs.length c2, .int .i64 n] 53, row B vs.length c2 (ci .u64 vs) 54 1]) (hR : Rep ws n L) (hM : Rep vs n M) (hn : n ≤ 1048576) : Calls Tryd.prog 11 #[.pointer (some ⟨g, 0, none⟩), .pointer (some ⟨h, 0, none⟩)] W fun e W' => ∃ ws', e = .returned (.bool (newB L M)) ∧ St W M_ W' [blk g [.slice A ws'.length c, .int .i64 n] 53, row A ws'.length c (ci .u64 ws') 54 1, blk h [.slice B vs.length c2, .int .i64 n] 53, row B vs.length c2 (ci .u64 vs) 54 1] ∧ Rep ws' n (uni L M) := by
  have hwl := hR.len
  have hvl := hM.len
  have hrc := HS.rcap (i := 1) rfl
  refine calls_enter ((.pointer (some ⟨g, 0, none⟩)) :: (.pointer (some ⟨h, 0, none⟩)) :: undef :: undef :: undef :: undef :: undef :: undef :: undef :: undef :: undef :: undef :: undef :: undef :: undef :: undef :: undef :: undef :: undef :: undef :: undef :: undef :: undef :: undef :: undef :: undef :: undef :: undef :: undef :: undef :: undef :: undef :: undef :: undef :: undef :: undef :: undef :: undef :: undef :: undef :: undef :: undef :: undef :: undef :: undef :: undef :: undef :: undef :: undef :: undef :: undef :: undef :: undef :: undef :: undef :: undef :: undef :: undef :: undef :: []) Tryd.func11 rfl (by kernel_rfl) ?_
  refine wp_seq ?_
  refine wp_region_lit ?_
  refine ql (.bool false) (by kernel_rfl) (by kernel_rfl) ?_
  refine wpList_nil ?_
  refine x_then ?_
  refine wp_seq ?_
  refine wp_seq ?_
  refine rg_still HS 16 (by kernel_rfl) (by kernel_rfl) ?_
  intro W1 H_ HK_
  simp only [List.take_succ_cons, List.take_zero, List.drop_succ_cons, List.drop_zero]
  replace HS : St W M_ W1 [blk g [.slice A ws.length c, .int .i64 n] 53, row A ws.length c (ci .u64 ws) 54 1, blk h [.slice B vs.length c2, .int .i64 n] 53, row B vs.length c2 (ci .u64 vs) 54 1] := H_
  clear H_
  clear HK_
  refine qs (.pointer (some ⟨g, 0, none⟩)) (by kernel_rfl) (by kernel_rfl) ?_
  refine qs (.bool false) (by kernel_rfl) (by kernel_rfl) ?_
  refine qs (.bool false) (by kernel_rfl) (by kernel_rfl) ?_
  refine qs (.pointer (some ⟨h, 0, none⟩)) (by kernel_rfl) (by kernel_rfl) ?_
  refine qs (.bool false) (by kernel_rfl) (by kernel_rfl) ?_
  refine qs (.bool false) (by kernel_rfl) (by kernel_rfl) ?_
  refine qs (.bool false) (by kernel_rfl) (by kernel_rfl) ?_
  refine qs (.pointer (some ⟨g, 0, none⟩)) (by kernel_rfl) (by kernel_rfl) ?_
  refine qs (.pointer (some ⟨g, 0, none⟩)) (by kernel_rfl) (by kernel_rfl) ?_
  refine qs (.pointer (some ⟨g, 1, none⟩)) (by kernel_rfl) (by kernel_rfl) ?_
  refine qs (.int .i64 n) (by kernel_rfl) (R_load (p := ⟨g, 1, none⟩) (by kernel_rfl) (by kernel_rfl) (by kernel_rfl) (HS.cell (i := 0) (j := 1) rfl rfl)) ?_
  refine qs (.pointer (some ⟨h, 0, none⟩)) (by kernel_rfl) (by kernel_rfl) ?_
  refine qs (.pointer (some ⟨h, 0, none⟩)) (by kernel_rfl) (by kernel_rfl) ?_
  refine qs (.pointer (some ⟨h, 1, none⟩)) (by kernel_rfl) (by kernel_rfl) ?_
  refine qs (.int .i64 n) (by kernel_rfl) (R_load (p := ⟨h, 1, none⟩) (by kernel_rfl) (by kernel_rfl) (by kernel_rfl) (HS.cell (i := 2) (j := 1) rfl rfl)) ?_
  refine qs (.bool false) (by kernel_rfl) (R_beq (b := (n != n)) (by kernel_rfl) (bne_f (by omega))) ?_
  refine wpStill_nil ?_
  refine ql (.bool false) (by kernel_rfl) (by kernel_rfl) ?_
  refine wpList_nil ?_
  refine x_then ?_
  refine wp_cond_false (by kernel_rfl) ?_
  refine wp_skip ?_
  refine x_then ?_
  refine wp_seq ?_
  refine wp_region_lit ?_
  refine ql (.int .u64 0) (by kernel_rfl) (by kernel_rfl) ?_
  refine wpList_nil ?_
  refine x_then ?_
  refine wp_seq ?_
  refine wp_seq ?_
  refine wp_region_lit ?_
  refine ql (.pointer (some ⟨h, 0, none⟩)) (by kernel_rfl) (by kernel_rfl) ?_
  refine ql (.pointer (some ⟨h, 0, none⟩)) (by kernel_rfl) (by kernel_rfl) ?_
  refine ql (.pointer (some ⟨h, 0, none⟩)) (by kernel_rfl) (by kernel_rfl) ?_
  refine ql (.slice B vs.length c2) (by kernel_rfl) (R_load (p := ⟨h, 0, none⟩) (by kernel_rfl) (by kernel_rfl) (by kernel_rfl) (HS.cell (i := 2) (j := 0) rfl rfl)) ?_
  refine ql (.int .i64 (vs.length : Int)) (by kernel_rfl) (by kernel_rfl) ?_
  refine ql (.int .i64 0) (by kernel_rfl) (by kernel_rfl) ?_
  refine wpList_nil ?_
  refine x_then ?_
  refine wp_block ?_
  refine wp_loop_ghost (fun kq a' w' => ∃ (J2 : Nat → Value) (k : Int) (ch : Int) (cur : List Int) , a' = Fr ((.pointer (some ⟨g, 0, none⟩)) :: (.pointer (some ⟨h, 0, none⟩)) :: undef :: undef :: (.bool false) :: (.int .u64 ch) :: ((J2 6)) :: ((J2 7)) :: (.pointer (some ⟨g, 0, none⟩)) :: (.bool false) :: (.bool false) :: (.pointer (some ⟨h, 0, none⟩)) :: (.bool false) :: (.bool false) :: (.bool false) :: (.pointer (some ⟨g, 0, none⟩)) :: (.pointer (some ⟨g, 0, none⟩)) :: (.pointer (some ⟨g, 1, none⟩)) :: (.int .i64 n) :: (.pointer (some ⟨h, 0, none⟩)) :: (.pointer (some ⟨h, 0, none⟩)) :: (.pointer (some ⟨h, 1, none⟩)) :: (.int .i64 n) :: (.bool false) :: (.bool false) :: (.pointer (some ⟨h, 0, none⟩)) :: (.pointer (some ⟨h, 0, none⟩)) :: (.pointer (some ⟨h, 0, none⟩)) :: (.slice B vs.length c2) :: (.int .i64 (vs.length : Int)) :: (.int .i64 k) :: ((J2 31)) :: ((J2 32)) :: ((J2 33)) :: ((J2 34)) :: ((J2 35)) :: ((J2 36)) :: ((J2 37)) :: ((J2 38)) :: ((J2 39)) :: ((J2 40)) :: ((J2 41)) :: ((J2 42)) :: ((J2 43)) :: ((J2 44)) :: ((J2 45)) :: ((J2 46)) :: ((J2 47)) :: ((J2 48)) :: ((J2 49)) :: ((J2 50)) :: ((J2 51)) :: ((J2 52)) :: ((J2 53)) :: ((J2 54)) :: ((J2 55)) :: ((J2 56)) :: undef :: undef :: []) ∧ kq = (ws.length - (k).toNat) ∧ (0 ≤ k) ∧ (k ≤ ws.length) ∧ (Jn ws vs cur k ch) ∧ St W M_ w' [blk g [.slice A ws.length c, .int .i64 n] 53, row A ws.length c (ci .u64 cur) 54 1, blk h [.slice B vs.length c2, .int .i64 n] 53, row B vs.length c2 (ci .u64 vs) 54 1]) (ws.length - ((0 : Int)).toNat) ⟨(fun k_ : Nat => List.getD ((.pointer (some ⟨g, 0, none⟩)) :: (.pointer (some ⟨h, 0, none⟩)) :: undef :: undef :: (.bool false) :: (.int .u64 0) :: undef :: undef :: (.pointer (some ⟨g, 0, none⟩)) :: (.bool false) :: (.bool false) :: (.pointer (some ⟨h, 0, none⟩)) :: (.bool false) :: (.bool false) :: (.bool false) :: (.pointer (some ⟨g, 0, none⟩)) :: (.pointer (some ⟨g, 0, none⟩)) :: (.pointer (some ⟨g, 1, none⟩)) :: (.int .i64 n) :: (.pointer (some ⟨h, 0, none⟩)) :: (.pointer (some ⟨h, 0, none⟩)) :: (.pointer (some ⟨h, 1, none⟩)) :: (.int .i64 n) :: (.bool false) :: (.bool false) :: (.pointer (some ⟨h, 0, none⟩)) :: (.pointer (some ⟨h, 0, none⟩)) :: (.pointer (some ⟨h, 0, none⟩)) :: (.slice B vs.length c2) :: (.int .i64 (vs.length : Int)) :: (.int .i64 0) :: undef :: undef :: undef :: undef :: undef :: undef :: undef :: undef :: undef :: undef :: undef :: undef :: undef :: undef :: undef :: undef :: undef :: undef :: undef :: undef :: undef :: undef :: undef :: undef :: undef :: undef :: undef :: undef :: []) k_ undef), (0 : Int), (0 : Int), ws, congrArg Fr (by kernel_rfl), rfl, by omega, by omega, Jn.zero ws vs, HS⟩ ?_
  clear HS
  intro kq3 a' W4 hrel
  obtain ⟨J2, k, ch, cur, rfl, hk, k0, k1, hj, HS⟩ := hrel
  have hcl := hj.len
  refine wp_seq ?_
  refine wp_region_lit ?_
  by_cases hc5 : k < (vs.length : Int)
  · skip
    refine ql (.bool true) (by kernel_rfl) (R_bool (p := k < (vs.length : Int)) (by kernel_rfl) (hc5)) ?_
    refine wpList_nil ?_
    refine x_then ?_
    refine wp_seq ?_
    refine wp_cond_true (by kernel_rfl) ?_
    refine wp_skip ?_
    refine x_then ?_
    refine wp_seq ?_
    refine wp_block ?_
    refine wp_seq ?_
    refine wp_region_lit ?_
    refine ql (.int .i64 k) (by kernel_rfl) (by kernel_rfl) ?_
    obtain ⟨g6, rfl⟩ := St.rsome HS (i := 3) rfl (by omega)
    refine ql (.pointer (some ⟨g6, k.toNat, none⟩)) (by kernel_rfl) (R_index1 (k := .i64) (g := g6) (n := vs.length) (c := c2) (i := k) (by kernel_rfl) (by kernel_rfl) Tryd.underlying51 (by kernel_rfl) (by omega) (by omega)) ?_
    refine ql (.int .u64 (rdI vs k)) (by kernel_rfl) (R_load (p := ⟨g6, k.toNat, none⟩) (by kernel_rfl) (by kernel_rfl) (by kernel_rfl) (HS.rcell (i := 3) rfl (ci_rd (i := k) (by omega) (by omega)))) ?_
    refine ql (.int .i64 k) (by kernel_rfl) (by kernel_rfl) ?_
    refine ql (.int .u64 (rdI vs k)) (by kernel_rfl) (by kernel_rfl) ?_
    refine wpList_nil ?_
    refine x_then ?_
    refine wp_seq ?_
    refine wp_region_lit ?_
    refine ql (.int .u64 ch) (by kernel_rfl) (by kernel_rfl) ?_
    refine ql (.int .u64 (rdI vs k)) (by kernel_rfl) (by kernel_rfl) ?_
    refine ql (.pointer (some ⟨g, 0, none⟩)) (by kernel_rfl) (by kernel_rfl) ?_
    refine ql (.pointer (some ⟨g, 0, none⟩)) (by kernel_rfl) (by kernel_rfl) ?_
    refine ql (.pointer (some ⟨g, 0, none⟩)) (by kernel_rfl) (by kernel_rfl) ?_
    refine ql (.slice A ws.length c) (by kernel_rfl) (R_load (p := ⟨g, 0, none⟩) (by kernel_rfl) (by kernel_rfl) (by kernel_rfl) (HS.cell (i := 0) (j := 0) rfl rfl)) ?_
    refine ql (.int .i64 k) (by kernel_rfl) (by kernel_rfl) ?_
    obtain ⟨g7, rfl⟩ := St.rsome HS (i := 1) rfl (by omega)
    refine ql (.pointer (some ⟨g7, k.toNat, none⟩)) (by kernel_rfl) (R_index1 (k := .i64) (g := g7) (n := ws.length) (c := c) (i := k) (by kernel_rfl) (by kernel_rfl) Tryd.underlying51 (by kernel_rfl) (by omega) (by omega)) ?_
    refine ql (.int .u64 (rdI cur k)) (by kernel_rfl) (R_load (p := ⟨g7, k.toNat, none⟩) (by kernel_rfl) (by kernel_rfl) (by kernel_rfl) (HS.rcell (i := 1) rfl (ci_rd (i := k) (by omega) (by omega)))) ?_
    refine ql (.int .u64 (anW (rdI vs k) (rdI cur k))) (by kernel_rfl) (R_an (by kernel_rfl) (by kernel_rfl) (hM.rd k0 (by omega)) (by rw [hj.hi k (by omega) (by omega)]; exact hR.rd k0 (by omega))) ?_
    refine ql (.int .u64 (orW ch (anW (rdI vs k) (rdI cur k)))) (by kernel_rfl) (R_or (by kernel_rfl) (by kernel_rfl) hj.u (u_an (hM.rd k0 (by omega)) (by rw [hj.hi k (by omega) (by omega)]; exact hR.rd k0 (by omega)))) ?_
    refine ql (.int .u64 (orW ch (anW (rdI vs k) (rdI cur k)))) (by kernel_rfl) (by kernel_rfl) ?_
    refine wpList_nil ?_
    refine x_then ?_
    refine wp_region_lit ?_
    refine ql (.pointer (some ⟨g, 0, none⟩)) (by kernel_rfl) (by kernel_rfl) ?_
    refine ql (.pointer (some ⟨g, 0, none⟩)) (by kernel_rfl) (by kernel_rfl) ?_
    refine ql (.pointer (some ⟨g, 0, none⟩)) (by kernel_rfl) (by kernel_rfl) ?_
    refine ql (.slice (some ⟨g7, 0, none⟩) ws.length c) (by kernel_rfl) (R_load (p := ⟨g, 0, none⟩) (by kernel_rfl) (by kernel_rfl) (by kernel_rfl) (HS.cell (i := 0) (j := 0) rfl rfl)) ?_
    refine ql (.int .i64 k) (by kernel_rfl) (by kernel_rfl) ?_
    refine ql (.pointer (some ⟨g7, k.toNat, none⟩)) (by kernel_rfl) (R_index1 (k := .i64) (g := g7) (n := ws.length) (c := c) (i := k) (by kernel_rfl) (by kernel_rfl) Tryd.underlying51 (by kernel_rfl) (by omega) (by omega)) ?_
    refine ql (.int .u64 (rdI cur k)) (by kernel_rfl) (R_load (p := ⟨g7, k.toNat, none⟩) (by kernel_rfl) (by kernel_rfl) (by kernel_rfl) (HS.rcell (i := 1) rfl (ci_rd (i := k) (by omega) (by omega)))) ?_
    refine ql (.int .u64 (rdI vs k)) (by kernel_rfl) (by kernel_rfl) ?_
    refine ql (.int .u64 (orW (rdI cur k) (rdI vs k))) (by kernel_rfl) (R_or (by kernel_rfl) (by kernel_rfl) (by rw [hj.hi k (by omega) (by omega)]; exact hR.rd k0 (by omega)) (hM.rd k0 (by omega))) ?_
    refine ql (.pointer (some ⟨g7, k.toNat, none⟩)) (by kernel_rfl) (R_index1 (k := .i64) (g := g7) (n := ws.length) (c := c) (i := k) (by kernel_rfl) (by kernel_rfl) Tryd.underlying51 (by kernel_rfl) (by omega) (by omega)) ?_
    refine kr (v := .int .u64 (orW (rdI cur k) (rdI vs k))) HS 1 rfl (k.toNat) [.int .u64 (orW (rdI cur k) (rdI vs k))] (by kernel_rfl) (by kernel_rfl) (by kernel_rfl) (by kernel_rfl) (by kernel_rfl) (one_ (by kernel_rfl)) (by rw [ci_len]; first | omega | (simp only [List.length_singleton]; omega)) rfl ?_
    intro W8 H_
    obtain ⟨xs9, xs9_⟩ : ∃ z_ : List Int, z_ = (cur).set k.toNat (orW (rdI cur k) (rdI vs k)) := ⟨_, rfl⟩
    replace HS : St W M_ W8 [blk g [.slice (some ⟨g7, 0, none⟩) ws.length c, .int .i64 n] 53, row (some ⟨g7, 0, none⟩) ws.length c (ci .u64 xs9) 54 1, blk h [.slice (some ⟨g6, 0, none⟩) vs.length c2, .int .i64 n] 53, row (some ⟨g6, 0, none⟩) vs.length c2 (ci .u64 vs) 54 1] := H_.cast_ (by rw [xs9_, ← ci_set]; rfl)
    clear H_
    have xs9l : xs9.length = ws.length := by rw [xs9_, List.length_set]; first | done | omega
    refine wpList_nil ?_
    refine x_inb ?_
    refine x_then ?_
    refine wp_region_lit ?_
    refine ql (.int .i64 (k + 1)) (by kernel_rfl) (R_int (by kernel_rfl) (w64 (by omega))) ?_
    refine ql (.int .i64 (k + 1)) (by kernel_rfl) (by kernel_rfl) ?_
    refine wpList_nil ?_
    refine x_then ?_
    exact ⟨ws.length - (k + 1).toNat, by omega, (fun k_ : Nat => List.getD ((.pointer (some ⟨g, 0, none⟩)) :: (.pointer (some ⟨h, 0, none⟩)) :: undef :: undef :: (.bool false) :: (.int .u64 (orW ch (anW (rdI vs k) (rdI cur k)))) :: (.int .i64 k) :: (.int .u64 (rdI vs k)) :: (.pointer (some ⟨g, 0, none⟩)) :: (.bool false) :: (.bool false) :: (.pointer (some ⟨h, 0, none⟩)) :: (.bool false) :: (.bool false) :: (.bool false) :: (.pointer (some ⟨g, 0, none⟩)) :: (.pointer (some ⟨g, 0, none⟩)) :: (.pointer (some ⟨g, 1, none⟩)) :: (.int .i64 n) :: (.pointer (some ⟨h, 0, none⟩)) :: (.pointer (some ⟨h, 0, none⟩)) :: (.pointer (some ⟨h, 1, none⟩)) :: (.int .i64 n) :: (.bool false) :: (.bool false) :: (.pointer (some ⟨h, 0, none⟩)) :: (.pointer (some ⟨h, 0, none⟩)) :: (.pointer (some ⟨h, 0, none⟩)) :: (.slice (some ⟨g6, 0, none⟩) vs.length c2) :: (.int .i64 (vs.length : Int)) :: (.int .i64 (k + 1)) :: (.bool true) :: (.int .i64 k) :: (.pointer (some ⟨g6, k.toNat, none⟩)) :: (.int .u64 (rdI vs k)) :: (.int .u64 ch) :: (.int .u64 (rdI vs k)) :: (.pointer (some ⟨g, 0, none⟩)) :: (.pointer (some ⟨g, 0, none⟩)) :: (.pointer (some ⟨g, 0, none⟩)) :: (.slice (some ⟨g7, 0, none⟩) ws.length c) :: (.int .i64 k) :: (.pointer (some ⟨g7, k.toNat, none⟩)) :: (.int .u64 (rdI cur k)) :: (.int .u64 (anW (rdI vs k) (rdI cur k))) :: (.int .u64 (orW ch (anW (rdI vs k) (rdI cur k)))) :: (.pointer (some ⟨g, 0, none⟩)) :: (.pointer (some ⟨g, 0, none⟩)) :: (.pointer (some ⟨g, 0, none⟩)) :: (.slice (some ⟨g7, 0, none⟩) ws.length c) :: (.int .i64 k) :: (.pointer (some ⟨g7, k.toNat, none⟩)) :: (.int .u64 (rdI cur k)) :: (.int .u64 (rdI vs k)) :: (.int .u64 (orW (rdI cur k) (rdI vs k))) :: (.pointer (some ⟨g7, k.toNat, none⟩)) :: (.int .i64 (k + 1)) :: undef :: undef :: []) k_ undef), k + 1, orW ch (anW (rdI vs k) (rdI cur k)), xs9, congrArg Fr (by kernel_rfl), rfl, by omega, by omega, (by rw [xs9_]; exact hj.step k0 (by omega) (hR.rd k0 (by omega)) (hM.rd k0 (by omega))), HS⟩
  · skip
    refine ql (.bool false) (by kernel_rfl) (R_nbool (p := k < (vs.length : Int)) (by kernel_rfl) (hc5)) ?_
    refine wpList_nil ?_
    refine x_then ?_
    refine wp_seq ?_
    refine wp_cond_false (by kernel_rfl) ?_
    refine wp_exit ?_
    refine x_thenE ?_
    refine x_thenE ?_
    refine x_hit ?_
    refine x_then ?_
    refine wp_seq ?_
    refine wp_region_lit ?_
    refine ql (.int .u64 ch) (by kernel_rfl) (by kernel_rfl) ?_
    by_cases hc10 : ch = (0 : Int)
    · skip
      refine ql (.bool false) (by kernel_rfl) (R_beq (b := (ch != (0 : Int))) (by kernel_rfl) (bne_f (hc10))) ?_
      refine ql (.bool false) (by kernel_rfl) (by kernel_rfl) ?_
      refine wpList_nil ?_
      refine x_then ?_
      refine wp_ret ?_
      refine ret_ (.bool false) (by kernel_rfl) ?_
      have hk9 : k = ws.length := by omega
      rw [hk9] at hj
      obtain ⟨hq, hz9⟩ := hR.join hM hj
      rw [← hcl] at HS
      exact ⟨cur, by rw [newB_f (hz9.1 hc10)], HS, hq⟩
    · skip
      refine ql (.bool true) (by kernel_rfl) (R_beq (b := (ch != (0 : Int))) (by kernel_rfl) (bne_t (hc10))) ?_
      refine ql (.bool true) (by kernel_rfl) (by kernel_rfl) ?_
      refine wpList_nil ?_
      refine x_then ?_
      refine wp_ret ?_
      refine ret_ (.bool true) (by kernel_rfl) ?_
      have hk9 : k = ws.length := by omega
      rw [hk9] at hj
      obtain ⟨hq, hz9⟩ := hR.join hM hj
      rw [← hcl] at HS
      exact ⟨cur, by rw [newB_t (fun h_ => hc10 (hz9.2 h_))], HS, hq⟩

set_option maxRecDepth 100000 in
set_option maxHeartbeats 1000000 in
theorem eqU (A B : Option Addr) (ws vs : List Int) (c c2 : Nat) (W : World) (hr : Rd W A (ci .u64 ws)) (hs : Rd W B (ci .u64 vs)) (hl : ws.length ≤ 100000) (hl2 : vs.length ≤ 100000) : Calls Tryd.prog 34 #[.slice A ws.length c, .slice B vs.length c2] W fun e W' => e = .returned (.bool (decide (ws = vs))) ∧ St W (owns []) W' [] := by
  have HS : St W (owns []) W [] := St.start W _
  refine calls_enter [.slice A ws.length c, .slice B vs.length c2, undef, undef, undef, undef, undef, undef, undef, undef, undef, undef, undef, undef, undef, undef, undef, undef, undef, undef, undef, undef, undef, undef, undef, undef] Tryd.func34 rfl (by kernel_rfl) ?_
  refine wp_seq ?_
  refine wp_region_lit ?_
  refine ql (.bool false) (by kernel_rfl) (by kernel_rfl) ?_
  refine wpList_nil ?_
  refine x_then ?_
  refine wp_seq ?_
  refine wp_seq ?_
  refine wp_region_lit ?_
  refine ql (.slice A ws.length c) (by kernel_rfl) (by kernel_rfl) ?_
  refine ql (.int .i64 (ws.length : Int)) (by kernel_rfl) (by kernel_rfl) ?_
  refine ql (.slice B vs.length c2) (by kernel_rfl) (by kernel_rfl) ?_
  refine ql (.int .i64 (vs.length : Int)) (by kernel_rfl) (by kernel_rfl) ?_
  by_cases hc1 : (ws.length : Int) = (vs.length : Int)
  · skip
    refine ql (.bool false) (by kernel_rfl) (R_beq (b := ((ws.length : Int) != (vs.length : Int))) (by kernel_rfl) (bne_f (hc1))) ?_
    refine wpList_nil ?_
    refine x_then ?_
    refine wp_cond_false (by kernel_rfl) ?_
    refine wp_skip ?_
    refine x_then ?_
    refine wp_seq ?_
    refine wp_seq ?_
    refine wp_region_lit ?_
    refine ql (.slice A ws.length c) (by kernel_rfl) (by kernel_rfl) ?_
    refine ql (.int .i64 (ws.length : Int)) (by kernel_rfl) (by kernel_rfl) ?_
    refine ql (.int .i64 0) (by kernel_rfl) (by kernel_rfl) ?_
    refine wpList_nil ?_
    refine x_then ?_
    refine wp_block ?_
    refine wp_loop_ghost (fun kq a' w' => ∃ (J2 : Nat → Value) (k : Int) , a' = Fr [.slice A ws.length c, .slice B vs.length c2, undef, undef, (J2 4), (J2 5), .slice A ws.length c, .int .i64 (ws.length : Int), .slice B vs.length c2, .int .i64 (vs.length : Int), .bool false, .slice A ws.length c, .int .i64 (ws.length : Int), .int .i64 k, (J2 14), (J2 15), (J2 16), (J2 17), (J2 18), (J2 19), (J2 20), (J2 21), (J2 22), (J2 23), (J2 24), (J2 25)] ∧ kq = (ws.length - (k).toNat) ∧ (0 ≤ k) ∧ (k ≤ ws.length) ∧ (eqTo ws vs k) ∧ St W (owns []) w' []) (ws.length - ((0 : Int)).toNat) ⟨(fun k_ : Nat => List.getD [.slice A ws.length c, .slice B vs.length c2, undef, undef, .bool false, undef, .slice A ws.length c, .int .i64 (ws.length : Int), .slice B vs.length c2, .int .i64 (vs.length : Int), .bool false, .slice A ws.length c, .int .i64 (ws.length : Int), .int .i64 0, undef, undef, undef, undef, undef, undef, undef, undef, undef, undef, undef, undef] k_ undef), (0 : Int), congrArg Fr (by kernel_rfl), rfl, by omega, by omega, eqTo_zero, HS⟩ ?_
    clear HS
    intro kq3 a' W4 hrel
    obtain ⟨J2, k, rfl, hk, k0, k1, he, HS⟩ := hrel
    refine wp_seq ?_
    refine wp_region_lit ?_
    by_cases hc5 : k < (ws.length : Int)
    · skip
      refine ql (.bool true) (by kernel_rfl) (R_bool (p := k < (ws.length : Int)) (by kernel_rfl) (hc5)) ?_
      refine wpList_nil ?_
      refine x_then ?_
      refine wp_seq ?_
      refine wp_cond_true (by kernel_rfl) ?_
      refine wp_skip ?_
      refine x_then ?_
      refine wp_seq ?_
      refine wp_block ?_
      refine wp_seq ?_
      refine wp_region_lit ?_
      refine ql (.int .i64 k) (by kernel_rfl) (by kernel_rfl) ?_
      refine ql (.int .i64 k) (by kernel_rfl) (by kernel_rfl) ?_
      refine wpList_nil ?_
      refine x_then ?_
      refine wp_seq ?_
      refine rg_still HS 8 (by kernel_rfl) (by kernel_rfl) ?_
      intro W6 H_ HK_
      simp only [List.take_succ_cons, List.take_zero, List.drop_succ_cons, List.drop_zero]
      replace HS : St W (owns []) W6 [] := H_
      clear H_
      clear HK_
      refine qs (.slice A ws.length c) (by kernel_rfl) (by kernel_rfl) ?_
      refine qs (.int .i64 k) (by kernel_rfl) (by kernel_rfl) ?_
      obtain ⟨ad7, rfl⟩ := Rd.isSome_ hr (by rw [ci_len]; omega)
      refine qs (.pointer (some (ad7.add k.toNat))) (by kernel_rfl) (R_indexA1 (k := .i64) (p := ad7) (n := ws.length) (c := c) (i := k) (by kernel_rfl) (by kernel_rfl) Tryd.underlying51 (by kernel_rfl) (by omega) (by omega)) ?_
      refine qs (.int .u64 (rdI ws k)) (by kernel_rfl) (R_load (p := ad7.add k.toNat) (by kernel_rfl) (by kernel_rfl) (by kernel_rfl) (HS.old0 (hr.at_ (ci_rd (i := k) (by omega) (by omega))))) ?_
      refine qs (.slice B vs.length c2) (by kernel_rfl) (by kernel_rfl) ?_
      refine qs (.int .i64 k) (by kernel_rfl) (by kernel_rfl) ?_
      obtain ⟨ad8, rfl⟩ := Rd.isSome_ hs (by rw [ci_len]; omega)
      refine qs (.pointer (some (ad8.add k.toNat))) (by kernel_rfl) (R_indexA1 (k := .i64) (p := ad8) (n := vs.length) (c := c2) (i := k) (by kernel_rfl) (by kernel_rfl) Tryd.underlying51 (by kernel_rfl) (by omega) (by omega)) ?_
      refine qs (.int .u64 (rdI vs k)) (by kernel_rfl) (R_load (p := ad8.add k.toNat) (by kernel_rfl) (by kernel_rfl) (by kernel_rfl) (HS.old0 (hs.at_ (ci_rd (i := k) (by omega) (by omega))))) ?_
      refine wpStill_nil ?_
      by_cases hc9 : (rdI ws k) = (rdI vs k)
      · skip
        refine ql (.bool false) (by kernel_rfl) (R_beq (b := (rdI ws k != rdI vs k)) (by kernel_rfl) (bne_f (hc9))) ?_
        refine wpList_nil ?_
        refine x_then ?_
        refine wp_cond_false (by kernel_rfl) ?_
        refine wp_skip ?_
        refine x_inb ?_
        refine x_then ?_
        refine wp_region_lit ?_
        refine ql (.int .i64 (k + 1)) (by kernel_rfl) (R_int (by kernel_rfl) (w64 (by omega))) ?_
        refine ql (.int .i64 (k + 1)) (by kernel_rfl) (by kernel_rfl) ?_
        refine wpList_nil ?_
        refine x_then ?_
        exact ⟨ws.length - (k + 1).toNat, by omega, (fun k_ : Nat => List.getD [.slice (some ad7) ws.length c, .slice (some ad8) vs.length c2, undef, undef, (J2 4), .int .i64 k, .slice (some ad7) ws.length c, .int .i64 (ws.length : Int), .slice (some ad8) vs.length c2, .int .i64 (vs.length : Int), .bool false, .slice (some ad7) ws.length c, .int .i64 (ws.length : Int), .int .i64 (k + 1), .bool true, .int .i64 k, .slice (some ad7) ws.length c, .int .i64 k, .pointer (some (ad7.add k.toNat)), .int .u64 (rdI ws k), .slice (some ad8) vs.length c2, .int .i64 k, .pointer (some (ad8.add k.toNat)), .int .u64 (rdI vs k), .bool false, .int .i64 (k + 1)] k_ undef), k + 1, congrArg Fr (by kernel_rfl), rfl, by omega, by omega, eqTo_step he (by first | assumption | omega), HS⟩
      · skip
        refine ql (.bool true) (by kernel_rfl) (R_beq (b := (rdI ws k != rdI vs k)) (by kernel_rfl) (bne_t (hc9))) ?_
        refine wpList_nil ?_
        refine x_then ?_
        refine wp_cond_true (by kernel_rfl) ?_
        refine wp_seq ?_
        refine wp_region_lit ?_
        refine ql (.bool false) (by kernel_rfl) (by kernel_rfl) ?_
        refine wpList_nil ?_
        refine x_then ?_
        refine wp_ret ?_
        refine x_inbR ?_
        refine x_thenR ?_
        refine x_thenR ?_
        refine x_inbR ?_
        refine x_thenR ?_
        refine ret_ (.bool false) (by kernel_rfl) ?_
        exact ⟨by rw [decide_eq_false (by intro h_; subst h_; omega)], HS⟩
    · skip
      refine ql (.bool false) (by kernel_rfl) (R_nbool (p := k < (ws.length : Int)) (by kernel_rfl) (hc5)) ?_
      refine wpList_nil ?_
      refine x_then ?_
      refine wp_seq ?_
      refine wp_cond_false (by kernel_rfl) ?_
      refine wp_exit ?_
      refine x_thenE ?_
      refine x_thenE ?_
      refine x_hit ?_
      refine x_then ?_
      refine wp_seq ?_
      refine wp_region_lit ?_
      refine ql (.bool true) (by kernel_rfl) (by kernel_rfl) ?_
      refine wpList_nil ?_
      refine x_then ?_
      refine wp_ret ?_
      refine ret_ (.bool true) (by kernel_rfl) ?_
      have hk9 : k = ws.length := by omega
      rw [hk9] at he
      have hq := eqTo_all (by omega) he
      exact ⟨by rw [decide_eq_true hq], HS⟩
  · skip
    refine ql (.bool true) (by kernel_rfl) (R_beq (b := ((ws.length : Int) != (vs.length : Int))) (by kernel_rfl) (bne_t (hc1))) ?_
    refine wpList_nil ?_
    refine x_then ?_
    refine wp_cond_true (by kernel_rfl) ?_
    refine wp_seq ?_
    refine wp_region_lit ?_
    refine ql (.bool false) (by kernel_rfl) (by kernel_rfl) ?_
    refine wpList_nil ?_
    refine x_then ?_
    refine wp_ret ?_
    refine x_thenR ?_
    refine ret_ (.bool false) (by kernel_rfl) ?_
    exact ⟨by rw [decide_eq_false (by intro h_; subst h_; omega)], HS⟩

set_option maxRecDepth 100000 in
set_option maxHeartbeats 1000000 in
theorem dsame_same (g c : Nat) (A : Option Addr) (ws : List Int) (n : Int) (h c2 : Nat) (B : Option Addr) (vs : List Int) (m : Int) (L M : List Int) (W : World) (hz0 : W.cell? ⟨g, 0, none⟩ = some (.slice A ws.length c)) (hz1 : W.cell? ⟨g, 1, none⟩ = some (.int .i64 n)) (hr : Rd W A (ci .u64 ws)) (hR : Rep ws n L) (hn : n ≤ 1048576) (hy0 : W.cell? ⟨h, 0, none⟩ = some (.slice B vs.length c2)) (hy1 : W.cell? ⟨h, 1, none⟩ = some (.int .i64 m)) (hs : Rd W B (ci .u64 vs)) (hM : Rep vs m M) (hm : m ≤ 1048576) (hne : n = m) : Calls Tryd.prog 20 #[.pointer (some ⟨g, 0, none⟩), .pointer (some ⟨h, 0, none⟩)] W fun e W' => e = .returned (.bool (decide (n = m ∧ L = M))) ∧ St W (owns []) W' [] := by
  have HS : St W (owns []) W [] := St.start W _
  have hwl := hR.len
  have hvl := hM.len
  refine calls_enter [.pointer (some ⟨g, 0, none⟩), .pointer (some ⟨h, 0, none⟩), undef, undef, undef, undef, undef, undef, undef, undef, undef, undef, undef, undef, undef, undef, undef, undef, undef, undef, undef, undef, undef, undef, undef, undef, undef, undef, undef, undef, undef, undef] Tryd.func20 rfl (by kernel_rfl) ?_
  refine wp_seq ?_
  refine wp_region_lit ?_
  refine ql (.bool false) (by kernel_rfl) (by kernel_rfl) ?_
  refine wpList_nil ?_
  refine x_then ?_
  refine wp_seq ?_
  refine t_start HS (fun _ => False) 28 (by kernel_rfl) rfl ?_
  intro W1 H_ HD_
  clear HD_
  replace HS : St W (owns []) W1 [] := H_
  clear H_
  have HV := HS
  have HK := Kpt.refl (fun _ => False) W1
  refine t_q (n := 27) 0 (.pointer (some ⟨g, 0, none⟩)) rfl (by kernel_rfl) (by kernel_rfl) (fun _ _ _ h => h) (fun w' hk => (by kernel_rfl)) HK ?_
  refine t_q (n := 26) 2 (.pointer (some ⟨h, 0, none⟩)) rfl (by kernel_rfl) (by kernel_rfl) (fun _ _ _ h => h) (fun w' hk => (by kernel_rfl)) HK ?_
  refine t_c (n := 25) 1 (f := 22) (args := #[.pointer (some ⟨g, 0, none⟩)]) rfl (by kernel_rfl) (by kernel_rfl) (R_call #[.pointer (some ⟨g, 0, none⟩)] Tryd.func22 (by kernel_rfl) (by kernel_rfl) (by kernel_rfl)) ?_
  refine (dsize _ _ _ (HS.old0 hz1)).mono ?_
  rintro e W2 ⟨rfl, H_⟩
  refine ⟨_, rfl, HK.tr H_.kept.nil, ?_⟩
  replace HK := HK.tr H_.kept.nil
  replace HS : St W (owns []) W2 [] := HS.join (F := []) (G := []) H_
  clear H_
  refine t_c (n := 24) 3 (f := 22) (args := #[.pointer (some ⟨h, 0, none⟩)]) rfl (by kernel_rfl) (by kernel_rfl) (R_call #[.pointer (some ⟨h, 0, none⟩)] Tryd.func22 (by kernel_rfl) (by kernel_rfl) (by kernel_rfl)) ?_
  refine (dsize _ _ _ (HS.old0 hy1)).mono ?_
  rintro e W3 ⟨rfl, H_⟩
  refine ⟨_, rfl, HK.tr H_.kept.nil, ?_⟩
  replace HK := HK.tr H_.kept.nil
  replace HS : St W (owns []) W3 [] := HS.join (F := []) (G := []) H_
  clear H_
  refine t_q (n := 23) 4 (.bool true) rfl (by kernel_rfl) (by kernel_rfl) (fun _ _ _ h => h) (fun w' hk => (R_beq (b := (n == m)) (by kernel_rfl) (beq_t (by omega)))) HK ?_
  refine t_q (n := 22) 5 (.bool true) rfl (by kernel_rfl) (by kernel_rfl) (fun _ _ _ h => h) (fun w' hk => (by kernel_rfl)) HK ?_
  refine t_q (n := 21) 6 (.pointer (some ⟨g, 0, none⟩)) rfl (by kernel_rfl) (by kernel_rfl) (fun _ _ _ h => h) (fun w' hk => (by kernel_rfl)) HK ?_
  refine t_q (n := 20) 7 (.bool false) rfl (by kernel_rfl) (by kernel_rfl) (fun _ _ _ h => h) (fun w' hk => (by kernel_rfl)) HK ?_
  refine t_q (n := 19) 8 (.pointer (some ⟨h, 0, none⟩)) rfl (by kernel_rfl) (by kernel_rfl) (fun _ _ _ h => h) (fun w' hk => (by kernel_rfl)) HK ?_
  refine t_q (n := 18) 9 (.bool false) rfl (by kernel_rfl) (by kernel_rfl) (fun _ _ _ h => h) (fun w' hk => (by kernel_rfl)) HK ?_
  refine t_q (n := 17) 10 (.bool true) rfl (by kernel_rfl) (by kernel_rfl) (fun _ _ _ h => h) (fun w' hk => (by kernel_rfl)) HK ?_
  refine t_q (n := 16) 11 (.bool true) rfl (by kernel_rfl) (by kernel_rfl) (fun _ _ _ h => h) (fun w' hk => (by kernel_rfl)) HK ?_
  refine t_q (n := 15) 12 (.bool true) rfl (by kernel_rfl) (by kernel_rfl) (fun _ _ _ h => h) (fun w' hk => (by kernel_rfl)) HK ?_
  refine t_q (n := 14) 13 (.pointer (some ⟨g, 0, none⟩)) rfl (by kernel_rfl) (by kernel_rfl) (fun _ _ _ h => h) (fun w' hk => (by kernel_rfl)) HK ?_
  refine t_q (n := 13) 14 (.bool false) rfl (by kernel_rfl) (by kernel_rfl) (fun _ _ _ h => h) (fun w' hk => (by kernel_rfl)) HK ?_
  refine t_q (n := 12) 15 (.bool false) rfl (by kernel_rfl) (by kernel_rfl) (fun _ _ _ h => h) (fun w' hk => (by kernel_rfl)) HK ?_
  refine t_q (n := 11) 16 (.pointer (some ⟨g, 0, none⟩)) rfl (by kernel_rfl) (by kernel_rfl) (fun _ _ _ h => h) (fun w' hk => (by kernel_rfl)) HK ?_
  refine t_q (n := 10) 17 (.pointer (some ⟨g, 0, none⟩)) rfl (by kernel_rfl) (by kernel_rfl) (fun _ _ _ h => h) (fun w' hk => (by kernel_rfl)) HK ?_
  refine t_q (n := 9) 18 (.pointer (some ⟨g, 0, none⟩)) rfl (by kernel_rfl) (by kernel_rfl) (fun _ _ _ h => h) (fun w' hk => (by kernel_rfl)) HK ?_
  refine t_q (n := 8) 19 (.slice A ws.length c) rfl (by kernel_rfl) (by kernel_rfl) (fun _ _ _ h => h) (fun w' hk => (R_load (p := ⟨g, 0, none⟩) (by kernel_rfl) (by kernel_rfl) (by kernel_rfl) (hk.cell (HV.old0 hz0)))) HK ?_
  refine t_q (n := 7) 20 (.pointer (some ⟨h, 0, none⟩)) rfl (by kernel_rfl) (by kernel_rfl) (fun _ _ _ h => h) (fun w' hk => (by kernel_rfl)) HK ?_
  refine t_q (n := 6) 21 (.pointer (some ⟨h, 0, none⟩)) rfl (by kernel_rfl) (by kernel_rfl) (fun _ _ _ h => h) (fun w' hk => (by kernel_rfl)) HK ?_
  refine t_q (n := 5) 22 (.pointer (some ⟨h, 0, none⟩)) rfl (by kernel_rfl) (by kernel_rfl) (fun _ _ _ h => h) (fun w' hk => (by kernel_rfl)) HK ?_
  refine t_q (n := 4) 23 (.slice B vs.length c2) rfl (by kernel_rfl) (by kernel_rfl) (fun _ _ _ h => h) (fun w' hk => (R_load (p := ⟨h, 0, none⟩) (by kernel_rfl) (by kernel_rfl) (by kernel_rfl) (hk.cell (HV.old0 hy0)))) HK ?_
  refine t_c (n := 3) 24 (f := 34) (args := #[.slice A ws.length c, .slice B vs.length c2]) rfl (by kernel_rfl) (by kernel_rfl) (R_call #[.slice A ws.length c, .slice B vs.length c2] Tryd.func34 (by kernel_rfl) (by kernel_rfl) (by kernel_rfl)) ?_
  refine (eqU A B ws vs _ _ _ (hr.old0 HS) (hs.old0 HS) (by omega) (by omega)).mono ?_
  rintro e W4 ⟨rfl, H_⟩
  refine ⟨_, rfl, HK.tr H_.kept.nil, ?_⟩
  replace HK := HK.tr H_.kept.nil
  replace HS : St W (owns []) W4 [] := HS.join (F := []) (G := []) H_
  clear H_
  refine t_q (n := 2) 25 (.bool (decide (ws = vs))) rfl (by kernel_rfl) (by kernel_rfl) (fun _ _ _ h => h) (fun w' hk => (by kernel_rfl)) HK ?_
  refine t_q (n := 1) 26 (.bool (decide (ws = vs))) rfl (by kernel_rfl) (by kernel_rfl) (fun _ _ _ h => h) (fun w' hk => (by kernel_rfl)) HK ?_
  refine t_q (n := 0) 27 (.bool (decide (ws = vs))) rfl (by kernel_rfl) (by kernel_rfl) (fun _ _ _ h => h) (fun w' hk => (by kernel_rfl)) HK ?_
  refine t_done (by kernel_rfl) ?_
  clear HV HK
  refine x_then ?_
  refine wp_ret ?_
  refine ret_ (.bool (decide (ws = vs))) (by kernel_rfl) ?_
  have hq : decide (ws = vs) = decide (n = m ∧ L = M) := decide_eq_decide.2 ⟨fun h_ => by subst h_; exact ⟨hne, hR.inj (hne ▸ hM)⟩, fun h_ => by obtain ⟨_, h2_⟩ := h_; subst h2_; exact hR.ext (hne ▸ hM)⟩
  exact ⟨by rw [← hq], HS⟩

set_option maxRecDepth 100000 in
set_option maxHeartbeats 1000000 in
theorem dsame_differ (g c : Nat) (A : Option Addr) (ws : List Int) (n : Int) (h c2 : Nat) (B : Option Addr) (vs : List Int) (m : Int) (L M : List Int) (W : World) (hz0 : W.cell? ⟨g, 0, none⟩ = some (.slice A ws.length c)) (hz1 : W.cell? ⟨g, 1, none⟩ = some (.int .i64 n)) (hr : Rd W A (ci .u64 ws)) (hR : Rep ws n L) (hn : n ≤ 1048576) (hy0 : W.cell? ⟨h, 0, none⟩ = some (.slice B vs.length c2)) (hy1 : W.cell? ⟨h, 1, none⟩ = some (.int .i64 m)) (hs : Rd W B (ci .u64 vs)) (hM : Rep vs m M) (hm : m ≤ 1048576) (hne : n ≠ m) : Calls Tryd.prog 20 #[.pointer (some ⟨g, 0, none⟩), .pointer (some ⟨h, 0, none⟩)] W fun e W' => e = .returned (.bool (decide (n = m ∧ L = M))) ∧ St W (owns []) W' [] := by
  have HS : St W (owns []) W [] := St.start W _
  have hwl := hR.len
  have hvl := hM.len
  refine calls_enter [.pointer (some ⟨g, 0, none⟩), .pointer (some ⟨h, 0, none⟩), undef, undef, undef, undef, undef, undef, undef, undef, undef, undef, undef, undef, undef, undef, undef, undef, undef, undef, undef, undef, undef, undef, undef, undef, undef, undef, undef, undef, undef, undef] Tryd.func20 rfl (by kernel_rfl) ?_
  refine wp_seq ?_
  refine wp_region_lit ?_
  refine ql (.bool false) (by kernel_rfl) (by kernel_rfl) ?_
  refine wpList_nil ?_
  refine x_then ?_
  refine wp_seq ?_
  refine t_start HS (fun _ => False) 28 (by kernel_rfl) rfl ?_
  intro W1 H_ HD_
  clear HD_
  replace HS : St W (owns []) W1 [] := H_
  clear H_
  have HV := HS
  have HK := Kpt.refl (fun _ => False) W1
  refine t_q (n := 27) 0 (.pointer (some ⟨g, 0, none⟩)) rfl (by kernel_rfl) (by kernel_rfl) (fun _ _ _ h => h) (fun w' hk => (by kernel_rfl)) HK ?_
  refine t_q (n := 26) 2 (.pointer (some ⟨h, 0, none⟩)) rfl (by kernel_rfl) (by kernel_rfl) (fun _ _ _ h => h) (fun w' hk => (by kernel_rfl)) HK ?_
  refine t_c (n := 25) 1 (f := 22) (args := #[.pointer (some ⟨g, 0, none⟩)]) rfl (by kernel_rfl) (by kernel_rfl) (R_call #[.pointer (some ⟨g, 0, none⟩)] Tryd.func22 (by kernel_rfl) (by kernel_rfl) (by kernel_rfl)) ?_
  refine (dsize _ _ _ (HS.old0 hz1)).mono ?_
  rintro e W2 ⟨rfl, H_⟩
  refine ⟨_, rfl, HK.tr H_.kept.nil, ?_⟩
  replace HK := HK.tr H_.kept.nil
  replace HS : St W (owns []) W2 [] := HS.join (F := []) (G := []) H_
  clear H_
  refine t_c (n := 24) 3 (f := 22) (args := #[.pointer (some ⟨h, 0, none⟩)]) rfl (by kernel_rfl) (by kernel_rfl) (R_call #[.pointer (some ⟨h, 0, none⟩)] Tryd.func22 (by kernel_rfl) (by kernel_rfl) (by kernel_rfl)) ?_
  refine (dsize _ _ _ (HS.old0 hy1)).mono ?_
  rintro e W3 ⟨rfl, H_⟩
  refine ⟨_, rfl, HK.tr H_.kept.nil, ?_⟩
  replace HK := HK.tr H_.kept.nil
  replace HS : St W (owns []) W3 [] := HS.join (F := []) (G := []) H_
  clear H_
  refine t_q (n := 23) 4 (.bool false) rfl (by kernel_rfl) (by kernel_rfl) (fun _ _ _ h => h) (fun w' hk => (R_beq (b := (n == m)) (by kernel_rfl) (beq_f (by omega)))) HK ?_
  refine t_q (n := 22) 5 (.bool false) rfl (by kernel_rfl) (by kernel_rfl) (fun _ _ _ h => h) (fun w' hk => (by kernel_rfl)) HK ?_
  refine t_qn (n := 21) 6 rfl (by kernel_rfl) (by kernel_rfl) (fun _ _ _ h => h) HK ?_
  refine t_qn (n := 20) 7 rfl (by kernel_rfl) (by kernel_rfl) (fun _ _ _ h => h) HK ?_
  refine t_qn (n := 19) 8 rfl (by kernel_rfl) (by kernel_rfl) (fun _ _ _ h => h) HK ?_
  refine t_qn (n := 18) 9 rfl (by kernel_rfl) (by kernel_rfl) (fun _ _ _ h => h) HK ?_
  refine t_qn (n := 17) 10 rfl (by kernel_rfl) (by kernel_rfl) (fun _ _ _ h => h) HK ?_
  refine t_q (n := 16) 11 (.bool false) rfl (by kernel_rfl) (by kernel_rfl) (fun _ _ _ h => h) (fun w' hk => (by kernel_rfl)) HK ?_
  refine t_q (n := 15) 12 (.bool false) rfl (by kernel_rfl) (by kernel_rfl) (fun _ _ _ h => h) (fun w' hk => (by kernel_rfl)) HK ?_
  refine t_qn (n := 14) 13 rfl (by kernel_rfl) (by kernel_rfl) (fun _ _ _ h => h) HK ?_
  refine t_qn (n := 13) 14 rfl (by kernel_rfl) (by kernel_rfl) (fun _ _ _ h => h) HK ?_
  refine t_qn (n := 12) 15 rfl (by kernel_rfl) (by kernel_rfl) (fun _ _ _ h => h) HK ?_
  refine t_qn (n := 11) 16 rfl (by kernel_rfl) (by kernel_rfl) (fun _ _ _ h => h) HK ?_
  refine t_qn (n := 10) 17 rfl (by kernel_rfl) (by kernel_rfl) (fun _ _ _ h => h) HK ?_
  refine t_qn (n := 9) 18 rfl (by kernel_rfl) (by kernel_rfl) (fun _ _ _ h => h) HK ?_
  refine t_qn (n := 8) 19 rfl (by kernel_rfl) (by kernel_rfl) (fun _ _ _ h => h) HK ?_
  refine t_qn (n := 7) 20 rfl (by kernel_rfl) (by kernel_rfl) (fun _ _ _ h => h) HK ?_
  refine t_qn (n := 6) 21 rfl (by kernel_rfl) (by kernel_rfl) (fun _ _ _ h => h) HK ?_
  refine t_qn (n := 5) 22 rfl (by kernel_rfl) (by kernel_rfl) (fun _ _ _ h => h) HK ?_
  refine t_qn (n := 4) 23 rfl (by kernel_rfl) (by kernel_rfl) (fun _ _ _ h => h) HK ?_
  refine t_qn (n := 3) 24 rfl (by kernel_rfl) (by kernel_rfl) (fun _ _ _ h => h) HK ?_
  refine t_qn (n := 2) 25 rfl (by kernel_rfl) (by kernel_rfl) (fun _ _ _ h => h) HK ?_
  refine t_q (n := 1) 26 (.bool false) rfl (by kernel_rfl) (by kernel_rfl) (fun _ _ _ h => h) (fun w' hk => (by kernel_rfl)) HK ?_
  refine t_q (n := 0) 27 (.bool false) rfl (by kernel_rfl) (by kernel_rfl) (fun _ _ _ h => h) (fun w' hk => (by kernel_rfl)) HK ?_
  refine t_done (by kernel_rfl) ?_
  clear HV HK
  refine x_then ?_
  refine wp_ret ?_
  refine ret_ (.bool false) (by kernel_rfl) ?_
  exact ⟨by rw [decide_eq_false (by intro h_; exact hne h_.1)], HS⟩

set_option maxRecDepth 100000 in
set_option maxHeartbeats 1000000 in
theorem dall (g : Nat) (W : World) : Calls Tryd.prog 14 #[.pointer (some ⟨g, 0, none⟩)] W fun e W' => ∃ b, e = .returned (.func (.func 28) #[] #[.pointer (some ⟨b, 0, none⟩)]) ∧ St W (owns []) W' [blk b [.pointer (some ⟨g, 0, none⟩)] 24] := by
  have HS : St W (owns []) W [] := St.start W _
  refine calls_enter [.pointer (some ⟨g, 0, none⟩), undef, undef, undef] Tryd.func14 rfl (by kernel_rfl) ?_
  refine wp_seq ?_
  refine wp_region_lit ?_
  refine kb HS [.pointer (some ⟨g, 0, none⟩)] 24 (fun g => .pointer (some ⟨g, 0, none⟩)) (by kernel_rfl) (by kernel_rfl) ?_
  intro g1 W2 H_
  replace HS : St W (owns []) W2 [blk g1 [.pointer (some ⟨g, 0, none⟩)] 24] := H_
  clear H_
  refine ql (.nilFunc) (by kernel_rfl) (by kernel_rfl) ?_
  refine wpList_nil ?_
  refine x_then ?_
  refine wp_seq ?_
  refine wp_region_lit ?_
  refine ql (.func (.func 28) #[] #[.pointer (some ⟨g1, 0, none⟩)]) (by kernel_rfl) (by kernel_rfl) ?_
  refine ql (.func (.func 28) #[] #[.pointer (some ⟨g1, 0, none⟩)]) (by kernel_rfl) (by kernel_rfl) ?_
  refine wpList_nil ?_
  refine x_then ?_
  refine wp_ret ?_
  refine ret_ (.func (.func 28) #[] #[.pointer (some ⟨g1, 0, none⟩)]) (by kernel_rfl) ?_
  exact ⟨_, rfl, HS⟩


theorem TabAt64.put {W : World} {l : Nat} {o o' : Obj} (h : TabAt64 W) (hl : W.heap[l]? = some o) (ho : o.isCells = false) : TabAt64 (W.putObj l o') := fun j hj => by
  have hp := h j hj
  obtain ⟨o2, h2, h3⟩ := cells_of_cell hp
  refine (World.cell?_of_block (World.putObj_heap_other (fun e => ?_))).trans hp
  rw [e, hl] at h2; cases h2; rw [ho] at h3; cases h3
theorem TabAt64.below {W W' : World} (h : TabAt64 W) (hb : Below W.heap.size W W') : TabAt64 W' := fun j hj => (hb.cell (World.block_lt_of_cell? W _ (h j hj))).trans (h j hj)
/-- What the iterator over a set reads. -/
def DnT (b g c : Nat) (A : Option Addr) (ws : List Int) (n : Int) (W : World) : Prop := DnI b g c A ws n W ∧ TabAt64 W
theorem DnT.below {b g c : Nat} {A : Option Addr} {ws : List Int} {n : Int} {W W' : World} (h : DnT b g c A ws n W) (hb : Below W.heap.size W W') : DnT b g c A ws n W' := ⟨h.1.tail_ hb, h.2.below hb⟩
theorem DnT.put {b g c : Nat} {A : Option Addr} {ws : List Int} {n : Int} {W : World} {l : Nat} {o o' : Obj} (h : DnT b g c A ws n W) (hl : W.heap[l]? = some o) (ho : o.isCells = false) : DnT b g c A ws n (W.putObj l o') := ⟨h.1.put hl ho, h.2.put hl ho⟩
def DnK (b g c : Nat) (A : Option Addr) (ws : List Int) (n : Int) (W W' : World) : Prop := DnT b g c A ws n W → DnT b g c A ws n W'

set_option maxRecDepth 100000 in
set_option maxHeartbeats 1000000 in
theorem dall_stops (b : Nat) (g c : Nat) (A : Option Addr) (ws : List Int) (n : Int) (L : List Int) (W : World) (hb : W.cell? ⟨b, 0, none⟩ = some (.pointer (some ⟨g, 0, none⟩))) (hz0 : W.cell? ⟨g, 0, none⟩ = some (.slice A ws.length c)) (hz1 : W.cell? ⟨g, 1, none⟩ = some (.int .i64 n)) (hr : Rd W A (ci .u64 ws)) (hR : Rep ws n L) (hn : n ≤ 1048576) (hT : TabAt64 W) (m : Nat) : SeqStopsK Fence.wide m Tryd.prog 28 #[.pointer (some ⟨b, 0, none⟩)] encI (DnK b g c A ws n) (fun xs => xs = L) (fun pre => pre <+: L) L.length W := by
  intro l J Jx WA hW hJ hJx hY h0
  have HD0 := (show DnT b g c A ws n W from ⟨⟨hb, hz0, hz1, hr⟩, hT⟩).below hW
  clear hb hz0 hz1 hr hT hW
  have HDc := HD0
  obtain ⟨⟨hb, hz0, hz1, hr⟩, hT⟩ := HDc
  have hJ0 := h0
  refine (callsIn_wide (n := m)).2 ?_
  have HS : St WA (owns []) WA [] := St.start WA _
  refine calls_enter [.func (.yield l) #[] #[], .pointer (some ⟨b, 0, none⟩), undef, undef, undef, undef, undef, undef, undef, undef, undef, undef, undef, undef, undef, undef, undef] Tryd.func28 rfl (by kernel_rfl) ?_
  refine wp_seq ?_
  refine wp_region_lit ?_
  refine ql (.pointer (some ⟨g, 0, none⟩)) (by kernel_rfl) (R_load (p := ⟨b, 0, none⟩) (by kernel_rfl) (by kernel_rfl) (by kernel_rfl) (HS.old0 hb)) ?_
  refine qc (f := 23) (args := #[.pointer (some ⟨g, 0, none⟩), .int .i64 0]) (by kernel_rfl) (R_call #[.pointer (some ⟨g, 0, none⟩), .int .i64 0] Tryd.func23 (by kernel_rfl) (by kernel_rfl) (by kernel_rfl)) ?_
  refine (dnext g c A ws n L 0 _ (HS.old0 hz0) (HS.old0 hz1) (hr.old0 HS) hR hn (hT.old0 HS)).mono ?_
  rintro e W1 ⟨rfl, H_⟩
  refine ⟨_, rfl, ?_⟩
  replace HS : St WA (owns []) W1 [] := HS.join (F := []) (G := []) H_
  clear H_
  refine ql (.int .i64 (nxt L 0)) (by kernel_rfl) (by kernel_rfl) ?_
  refine wpList_nil ?_
  refine x_then ?_
  refine wp_block ?_
  have HB := HS.kept.below owns_nil
  have HD := HD0.below HB
  have HJ := hJ _ _ _ none h0 HS.grownBy0 (fun _ h_ => nomatch h_)
  refine wp_loop_ghost (fun kq a' w' => ∃ (J1 : Nat → Value) (i : Int) (pre rest : List Int), a' = Fr [.func (.yield l) #[] #[], .pointer (some ⟨b, 0, none⟩), undef, .int .i64 i, .pointer (some ⟨g, 0, none⟩), .int .i64 (nxt L 0), (J1 6), (J1 7), (J1 8), (J1 9), (J1 10), (J1 11), (J1 12), (J1 13), (J1 14), (J1 15), (J1 16)] ∧ kq = rest.length ∧ L = pre ++ rest ∧ i = rest.head?.getD (-1) ∧ DnT b g c A ws n w' ∧ J pre w') L.length ⟨(fun k_ : Nat => List.getD [.func (.yield l) #[] #[], .pointer (some ⟨b, 0, none⟩), undef, .int .i64 (nxt L 0), .pointer (some ⟨g, 0, none⟩), .int .i64 (nxt L 0), undef, undef, undef, undef, undef, undef, undef, undef, undef, undef, undef] k_ undef), nxt L 0, [], L, congrArg Fr (by kernel_rfl), rfl, rfl, nxt_first (fun x hx => (hR.lim x hx).1), HD, HJ⟩ ?_
  clear HS HB HD HJ hJ0 HD0 hb hz0 hz1 hr hT
  intro kq a' WB hrel
  obtain ⟨J1, i, pre, rest, rfl, hk, hL, hi, HD, HJ⟩ := hrel
  have HDc := HD
  obtain ⟨⟨hb, hz0, hz1, hr⟩, hT⟩ := HDc
  have HS : St WB (owns []) WB [] := St.start WB _
  rcases rest with _ | ⟨x, rest⟩
  · skip
    have hi : i = -1 := hi
    refine wp_seq ?_
    refine wp_seq ?_
    refine wp_region_yield ?_
    refine yq (.int .i64 i) (by kernel_rfl) (by intro c_ h_; cases h_) (by kernel_rfl) ?_
    refine yq (.bool false) (by kernel_rfl) (by intro c_ h_; cases h_) (R_nbool (p := i ≥ (0 : Int)) (by kernel_rfl) (by omega)) ?_
    refine yq (.bool false) (by kernel_rfl) (by intro c_ h_; cases h_) (by kernel_rfl) ?_
    refine yn (by kernel_rfl) ?_
    refine yn (by kernel_rfl) ?_
    refine yn (by kernel_rfl) ?_
    refine yq (.bool false) (by kernel_rfl) (by intro c_ h_; cases h_) (by kernel_rfl) ?_
    refine wpListIn_nil ?_
    refine x_then ?_
    refine wp_cond_false (by kernel_rfl) ?_
    refine wp_exit ?_
    refine x_thenE ?_
    refine x_thenE ?_
    refine x_hit ?_
    refine end_ (.tuple #[]) (by kernel_rfl) ?_
    exact ⟨⟨_, rfl⟩, .inl ⟨pre, by rw [hL, List.append_nil], HJ⟩⟩
  · skip
    have hi : i = x := hi
    subst hi
    have hxL : i ∈ L := by rw [hL]; simp
    have hlx := hR.lim i hxL
    have hY1 := hY pre i WB HJ (by rw [hL]; simp)
    refine wp_seq ?_
    refine wp_seq ?_
    refine wp_region_yield ?_
    refine yq (.int .i64 i) (by kernel_rfl) (by intro c_ h_; cases h_) (by kernel_rfl) ?_
    refine yq (.bool true) (by kernel_rfl) (by intro c_ h_; cases h_) (R_bool (p := i ≥ (0 : Int)) (by kernel_rfl) (by omega)) ?_
    refine yq (.bool true) (by kernel_rfl) (by intro c_ h_; cases h_) (by kernel_rfl) ?_
    refine yq (.func (.yield l) #[] #[]) (by kernel_rfl) (by intro c_ h_; cases h_) (by kernel_rfl) ?_
    refine yq (.int .i64 i) (by kernel_rfl) (by intro c_ h_; cases h_) (by kernel_rfl) ?_
    refine yy #[.int .i64 i] (by kernel_rfl) (by kernel_rfl) (by kernel_rfl) hY1 ?_
    rintro e WC (⟨rfl, HJ3, HK3⟩ | ⟨rfl, HJ3⟩)
    · refine ⟨_, rfl, ?_⟩
      clear HS
      have HD3 := HK3 HD
      clear HD hb hz0 hz1 hr hT
      have HDc := HD3
      obtain ⟨⟨hb, hz0, hz1, hr⟩, hT⟩ := HDc
      have HS : St WC (owns []) WC [] := St.start WC _
      refine yq (.bool true) (by kernel_rfl) (by intro c_ h_; cases h_) (by kernel_rfl) ?_
      refine wpListIn_nil ?_
      refine x_then ?_
      refine wp_cond_true (by kernel_rfl) ?_
      refine wp_skip ?_
      refine x_then ?_
      refine wp_seq ?_
      refine wp_block ?_
      refine wp_skip ?_
      refine x_inb ?_
      refine x_then ?_
      refine wp_region_lit ?_
      refine ql (.pointer (some ⟨g, 0, none⟩)) (by kernel_rfl) (R_load (p := ⟨b, 0, none⟩) (by kernel_rfl) (by kernel_rfl) (by kernel_rfl) (HS.old0 hb)) ?_
      refine ql (.int .i64 i) (by kernel_rfl) (by kernel_rfl) ?_
      refine ql (.int .i64 (i + 1)) (by kernel_rfl) (R_int (by kernel_rfl) (w64 (by omega))) ?_
      refine qc (f := 23) (args := #[.pointer (some ⟨g, 0, none⟩), .int .i64 (i + 1)]) (by kernel_rfl) (R_call #[.pointer (some ⟨g, 0, none⟩), .int .i64 (i + 1)] Tryd.func23 (by kernel_rfl) (by kernel_rfl) (by kernel_rfl)) ?_
      refine (dnext g c A ws n L (i + 1) _ (HS.old0 hz0) (HS.old0 hz1) (hr.old0 HS) hR hn (hT.old0 HS)).mono ?_
      rintro e W2 ⟨rfl, H_⟩
      refine ⟨_, rfl, ?_⟩
      replace HS : St WC (owns []) W2 [] := HS.join (F := []) (G := []) H_
      clear H_
      refine ql (.int .i64 (nxt L (i + 1))) (by kernel_rfl) (by kernel_rfl) ?_
      refine wpList_nil ?_
      refine x_then ?_
      have HB := HS.kept.below owns_nil
      exact ⟨rest.length, by rw [hk]; simp, (fun k_ : Nat => List.getD [.func (.yield l) #[] #[], .pointer (some ⟨b, 0, none⟩), undef, .int .i64 (nxt L (i + 1)), .pointer (some ⟨g, 0, none⟩), .int .i64 (nxt L 0), .int .i64 i, .bool true, .bool true, .func (.yield l) #[] #[], .int .i64 i, .bool true, .bool true, .pointer (some ⟨g, 0, none⟩), .int .i64 i, .int .i64 (i + 1), .int .i64 (nxt L (i + 1))] k_ undef), nxt L (i + 1), pre ++ [i], rest, congrArg Fr (by kernel_rfl), rfl, by rw [hL]; simp, by rw [hL]; exact nxt_after (hL ▸ hR.srt), HD3.below HB, hJ _ _ _ none HJ3 HS.grownBy0 (fun _ h_ => nomatch h_)⟩
    · refine ⟨_, rfl, ?_⟩
      clear HS
      have HS : St WC (owns []) WC [] := St.start WC _
      refine yq (.bool false) (by kernel_rfl) (by intro c_ h_; cases h_) (by kernel_rfl) ?_
      refine wpListIn_nil ?_
      refine x_then ?_
      refine wp_cond_false (by kernel_rfl) ?_
      refine wp_exit ?_
      refine x_thenE ?_
      refine x_thenE ?_
      refine x_hit ?_
      refine end_ (.tuple #[]) (by kernel_rfl) ?_
      exact ⟨⟨_, rfl⟩, .inr ⟨pre ++ [i], ⟨rest, by rw [hL]; simp⟩, HJ3⟩⟩

theorem DnK.of {b g c : Nat} {A : Option Addr} {ws : List Int} {n : Int} {W X Y : World} (h : DnT b g c A ws n W) (hb : Below W.heap.size X Y) : DnK b g c A ws n X Y := fun ⟨⟨p1, p2, p3, p4⟩, p5⟩ =>
  ⟨⟨(hb.cell (World.block_lt_of_cell? W _ h.1.hb)).trans p1, (hb.cell (World.block_lt_of_cell? W _ h.1.h0)).trans p2, (hb.cell (World.block_lt_of_cell? W _ h.1.h1)).trans p3, fun j v hv => by
    obtain ⟨ad, e, hc⟩ := p4 j v hv
    obtain ⟨ad2, e2, hc2⟩ := h.1.hr j v hv
    rw [e] at e2; cases e2
    exact ⟨ad, e, (hb.cell (World.block_lt_of_cell? W _ hc2)).trans hc⟩⟩, fun j hj => (hb.cell (World.block_lt_of_cell? W _ (h.2 j hj))).trans (p5 j hj)⟩
def DnN (b : Nat) (W : World) : Prop := W.cell? ⟨b, 0, none⟩ = some (.pointer none)
theorem DnN.below {b : Nat} {W W' : World} (h : DnN b W) (hb : Below W.heap.size W W') : DnN b W' := (hb.cell (World.block_lt_of_cell? W _ h)).trans h
def DnNK (b : Nat) (W W' : World) : Prop := DnN b W → DnN b W'
theorem DnNK.of {b : Nat} {W X Y : World} (h : DnN b W) (hb : Below W.heap.size X Y) : DnNK b X Y := fun p => (hb.cell (World.block_lt_of_cell? W _ h)).trans p

set_option maxRecDepth 100000 in
set_option maxHeartbeats 1000000 in
theorem apS {Kp : World → World → Prop} {S_ Sp : List Int → Prop} {N : Nat} (gf : Nat) (lb : Array Value) (W : World) (hen : Enters Tryd.prog gf) (hseq : SeqStopsK Fence.wide 0 Tryd.prog gf lb encI Kp S_ Sp N W) (hKt : ∀ {X Y Z : World}, Kp X Y → Kp Y Z → Kp X Z) (hKp : ∀ X Y, Below W.heap.size X Y → Kp X Y) (hN : N ≤ 1000000000) : Calls Tryd.prog 37 #[.slice none 0 0, .func (.func gf) #[] lb] W fun e W' => ∃ A c xs, S_ xs ∧ e = .returned (.slice A xs.length c) ∧ St W (owns []) W' [row A xs.length c (ci .i64 xs) 3 1] := by
  have HS : St W (owns []) W [] := St.start W _
  refine calls_enterM [.slice none 0 0, .func (.func gf) #[] lb, undef, undef, undef, undef, undef, undef, undef, undef, undef, undef, undef] Tryd.func37 rfl (by kernel_rfl) ?_
  refine wp_seq ?_
  refine wp_region_lit ?_
  refine kb HS [.slice none 0 0] 22 (fun g => .pointer (some ⟨g, 0, none⟩)) (by kernel_rfl) (by kernel_rfl) ?_
  intro g1 W2 H_
  replace HS : St W (owns []) W2 [blk g1 [.slice none 0 0] 22] := H_
  clear H_
  refine ql (.slice none 0 0) (by kernel_rfl) (by kernel_rfl) ?_
  refine wpList_nil ?_
  refine x_then ?_
  refine wp_seq ?_
  refine wp_seq ?_
  refine wp_region_lit ?_
  refine ql (.func (.func gf) #[] lb) (by kernel_rfl) (by kernel_rfl) ?_
  refine wpList_nil ?_
  refine x_then ?_
  refine wp_block ?_
  replace HS : St W (owns []) W2 [row none 0 0 (ci .i64 ([])) 3 1, blk g1 [.slice none 0 0] 22] := (HS.nilRow 3 1).cast_ (by kernel_rfl)
  replace HS : St W (owns []) W2 [blk g1 [.slice none 0 0] 22, row none 0 0 (ci .i64 ([])) 3 1] := HS.perm (perm_ [1, 0] (by kernel_rfl) rfl)
  have HSb := HS
  refine rangeF (gf := gf) (lb := lb) (m := 0) (by kernel_rfl) hen (seq_later hseq (HS.kept.below owns_nil)) hKt (fun X l_ o_ o2_ hl_ _ _ _ => hKp _ _ (below_put (Nat.le_trans HSb.le hl_)))
    (fun pre w' => ∃ (A : Option Addr) (c : Nat), St W (owns []) w' [blk g1 [.slice A pre.length c] 22, row A pre.length c (ci .i64 pre) 3 1])
    (fun c pre w' => False)
    (fun s_ A_ B_ r_ h_ hg_ hr_ => by obtain ⟨A, c, HS⟩ := h_; exact ⟨A, c, HS.grown (cel_cons blk_cel (cel_cons row_cel cel_nil)) HSb.le hg_ hr_⟩)
    (fun _ _ _ _ _ h_ _ _ => h_)
    (by exact ⟨none, 0, HS⟩)
    (fun x => [.slice none 0 0, .func (.func gf) #[] lb, .pointer (some ⟨g1, 0, none⟩), undef, .slice none 0 0, .int .i64 x, .func (.func gf) #[] lb, .int .i64 x, undef, undef, undef, undef, undef]) ?_ ?_ ?_ ?_
  · intro l x W3 K_ hK_
    refine wp_region_litR (by kernel_rfl) (fun ⟨_, _, h_⟩ => (h_ : False)) ?_
    refine ql (.int .i64 x) (by kernel_rfl) (by kernel_rfl) ?_
    refine wpList_nil ?_
    refine x_then ?_
    exact kk_ (congrArg Fr (by kernel_rfl)) hK_
  · intro l pre x W3 hI_ hlt
    obtain ⟨A, c, HS⟩ := hI_
    have HO := HS
    replace HS := HO.root
    refine wpIn_block ?_
    refine wp_region_litR (by kernel_rfl) (fun ⟨_, _, h_⟩ => (h_ : False)) ?_
    refine ql (.slice A pre.length c) (by kernel_rfl) (R_load (p := ⟨g1, 0, none⟩) (by kernel_rfl) (by kernel_rfl) (by kernel_rfl) (HS.cell (i := 0) (j := 0) rfl rfl)) ?_
    refine ql (.int .i64 x) (by kernel_rfl) (by kernel_rfl) ?_
    refine kl HS 1 [.int .i64 x] 3 1 (by kernel_rfl) (by kernel_rfl) rfl (by decide) ?_
    intro g4 W5 H_
    replace HS : St W3 (owns [blk g1 [.slice A pre.length c] 22, row A pre.length c (ci .i64 pre) 3 1]) W5 [row (some ⟨g4, 0, none⟩) 1 1 (ci .i64 ([x])) 3 1, blk g1 [.slice A pre.length c] 22, row A pre.length c (ci .i64 pre) 3 1] := H_.cast_ (by kernel_rfl)
    clear H_
    obtain ⟨xs9, xs9_⟩ : ∃ z_ : List Int, z_ = pre ++ ([x]) := ⟨_, rfl⟩
    have xs9l : xs9.length = pre.length + 1 := by rw [xs9_, List.length_append] <;> (try simp only [List.length_cons, List.length_nil]) <;> omega
    refine ka1 HS 2 rfl (Src.of_row HS (i := 0) rfl ci_one) [.int .i64 0] 8 xs9.length (ci .i64 xs9) (by omega) (by rw [xs9_, ci_app]) (by kernel_rfl) (by kernel_rfl) (by kernel_rfl) Tryd.underlying22 (by kernel_rfl) (by kernel_rfl) (by kernel_rfl) (by kernel_rfl) (by decide) (by omega) (by omega) ?_
    intro A6 c7 W8 H_
    replace HS : St W3 (owns [blk g1 [.slice A pre.length c] 22, row A pre.length c (ci .i64 pre) 3 1]) W8 [row (some ⟨g4, 0, none⟩) 1 1 (ci .i64 ([x])) 3 1, blk g1 [.slice A pre.length c] 22, row A6 xs9.length c7 (ci .i64 xs9) 3 1] := H_
    clear H_
    refine ks (v := .slice A6 xs9.length c7) HS 1 rfl (0) [.slice A6 xs9.length c7] (by kernel_rfl) (by kernel_rfl) (by kernel_rfl) (by kernel_rfl) (by kernel_rfl) (one_ (by kernel_rfl)) (Nat.le_of_ble_eq_true rfl) rfl ?_
    intro W10 H_
    replace HS : St W3 (owns [blk g1 [.slice A pre.length c] 22, row A pre.length c (ci .i64 pre) 3 1]) W10 [row (some ⟨g4, 0, none⟩) 1 1 (ci .i64 ([x])) 3 1, blk g1 [.slice A6 xs9.length c7] 22, row A6 xs9.length c7 (ci .i64 xs9) 3 1] := H_
    clear H_
    refine wpList_nil ?_
    refine x_inb ?_
    replace HS := HS.drop1
    subst xs9_
    have HF := HO.unroot HS
    exact og_n (HS.keepsFrom HO (cel_cons blk_cel (cel_cons row_cel cel_nil)) _) (hKp _ _ (HO.belowR HS)) ⟨A6, c7, HF⟩
  · intro D xs W3 hD hS hI_ hdf
    obtain ⟨A, c, HS⟩ := hI_
    replace HS := HS.addD (cel_cons blk_cel (cel_cons row_cel cel_nil)) (Nat.le_trans HSb.le hD) hdf
    refine x_inb ?_
    refine x_then ?_
    refine wp_seq ?_
    refine wp_region_lit ?_
    refine ql (.slice A xs.length c) (by kernel_rfl) (R_load (p := ⟨g1, 0, none⟩) (by kernel_rfl) (by kernel_rfl) (by kernel_rfl) (HS.cell (i := 1) (j := 0) rfl rfl)) ?_
    refine ql (.slice A xs.length c) (by kernel_rfl) (by kernel_rfl) ?_
    refine wpList_nil ?_
    refine x_then ?_
    refine wp_ret ?_
    refine retD_ HS ?_
    clear HS
    intro W11 HS
    refine ⟨.slice A xs.length c, by kernel_rfl, ?_⟩
    replace HS := HS.drop1
    exact ⟨A, c, xs, hS, rfl, HS⟩
  · intro D c pre W3 hD hSp hIx_ hdf
    exact hIx_.elim

set_option maxRecDepth 100000 in
set_option maxHeartbeats 1000000 in
theorem colS {Kp : World → World → Prop} {S_ Sp : List Int → Prop} {N : Nat} (gf : Nat) (lb : Array Value) (W : World) (hen : Enters Tryd.prog gf) (hseq : SeqStopsK Fence.wide 0 Tryd.prog gf lb encI Kp S_ Sp N W) (hKt : ∀ {X Y Z : World}, Kp X Y → Kp Y Z → Kp X Z) (hKp : ∀ X Y, Below W.heap.size X Y → Kp X Y) (hN : N ≤ 1000000000) : Calls Tryd.prog 36 #[.func (.func gf) #[] lb] W fun e W' => ∃ A c xs, S_ xs ∧ e = .returned (.slice A xs.length c) ∧ St W (owns []) W' [row A xs.length c (ci .i64 xs) 3 1] := by
  have HS : St W (owns []) W [] := St.start W _
  refine calls_enter [.func (.func gf) #[] lb, undef, undef, undef, undef] Tryd.func36 rfl (by kernel_rfl) ?_
  refine wp_seq ?_
  refine wp_region_lit ?_
  refine ql (.slice none 0 0) (by kernel_rfl) (by kernel_rfl) ?_
  refine wpList_nil ?_
  refine x_then ?_
  refine wp_seq ?_
  refine wp_region_lit ?_
  refine ql (.func (.func gf) #[] lb) (by kernel_rfl) (by kernel_rfl) ?_
  refine qc (f := 37) (args := #[.slice none 0 0, .func (.func gf) #[] lb]) (by kernel_rfl) (R_call #[.slice none 0 0, .func (.func gf) #[] lb] Tryd.func37 (by kernel_rfl) (by kernel_rfl) (by kernel_rfl)) ?_
  refine (apS gf lb _ hen hseq hKt hKp hN).mono ?_
  rintro e W1 ⟨A8, c8, xs8, hS8, rfl, H_⟩
  refine ⟨_, rfl, ?_⟩
  replace HS : St W (owns []) W1 [row A8 xs8.length c8 (ci .i64 xs8) 3 1] := HS.join (F := []) (G := [row A8 xs8.length c8 (ci .i64 xs8) 3 1]) H_
  clear H_
  refine ql (.slice A8 xs8.length c8) (by kernel_rfl) (by kernel_rfl) ?_
  refine wpList_nil ?_
  refine x_then ?_
  refine wp_ret ?_
  refine ret_ (.slice A8 xs8.length c8) (by kernel_rfl) ?_
  exact ⟨A8, c8, xs8, hS8, rfl, HS⟩

set_option maxRecDepth 100000 in
set_option maxHeartbeats 1000000 in
theorem dlist (g c : Nat) (A : Option Addr) (ws : List Int) (n : Int) (L : List Int) (W : World) (hz0 : W.cell? ⟨g, 0, none⟩ = some (.slice A ws.length c)) (hz1 : W.cell? ⟨g, 1, none⟩ = some (.int .i64 n)) (hr : Rd W A (ci .u64 ws)) (hR : Rep ws n L) (hn : n ≤ 1048576) (hT : TabAt64 W) : Calls Tryd.prog 24 #[.pointer (some ⟨g, 0, none⟩)] W fun e W' => ∃ A' c', e = .returned (.slice A' L.length c') ∧ St W (owns []) W' [row A' L.length c' (ci .i64 L) 3 1] := by
  have HS : St W (owns []) W [] := St.start W _
  refine calls_enter [.pointer (some ⟨g, 0, none⟩), undef, undef, undef, undef, undef] Tryd.func24 rfl (by kernel_rfl) ?_
  refine wp_seq ?_
  refine wp_region_lit ?_
  refine ql (.slice none 0 0) (by kernel_rfl) (by kernel_rfl) ?_
  refine wpList_nil ?_
  refine x_then ?_
  refine wp_seq ?_
  refine wp_region_lit ?_
  refine ql (.pointer (some ⟨g, 0, none⟩)) (by kernel_rfl) (by kernel_rfl) ?_
  refine qc (f := 14) (args := #[.pointer (some ⟨g, 0, none⟩)]) (by kernel_rfl) (R_call #[.pointer (some ⟨g, 0, none⟩)] Tryd.func14 (by kernel_rfl) (by kernel_rfl) (by kernel_rfl)) ?_
  refine (dall g _).mono ?_
  rintro e W2 ⟨b1, rfl, H_⟩
  refine ⟨_, rfl, ?_⟩
  replace HS : St W (owns []) W2 [blk b1 [.pointer (some ⟨g, 0, none⟩)] 24] := HS.join (F := []) (G := [blk b1 [.pointer (some ⟨g, 0, none⟩)] 24]) H_
  clear H_
  refine qc (f := 36) (args := #[.func (.func 28) #[] #[.pointer (some ⟨b1, 0, none⟩)]]) (by kernel_rfl) (R_call #[.func (.func 28) #[] #[.pointer (some ⟨b1, 0, none⟩)]] Tryd.func36 (by kernel_rfl) (by kernel_rfl) (by kernel_rfl)) ?_
  have HDT : DnT b1 g c A ws n _ := ⟨⟨HS.cell (i := 0) (j := 0) rfl rfl, HS.old0 hz0, HS.old0 hz1, hr.old0 HS⟩, hT.old0 HS⟩
  have hll := hR.llen
  refine (colS 28 #[.pointer (some ⟨b1, 0, none⟩)] _ (enters_of Tryd.func28 (by kernel_rfl) rfl) (dall_stops b1 g c A ws n L _ HDT.1.hb HDT.1.h0 HDT.1.h1 HDT.1.hr hR hn HDT.2 0) (fun h_ k_ => fun x_ => k_ (h_ x_)) (fun X Y hb_ => DnK.of HDT hb_) (by omega)).mono ?_
  rintro e W3 ⟨A8, c8, xs8, hS8, rfl, H_⟩
  have hS8 : L = xs8 := hS8.symm
  subst hS8
  refine ⟨_, rfl, ?_⟩
  replace HS : St W (owns []) W3 [row A8 L.length c8 (ci .i64 L) 3 1, blk b1 [.pointer (some ⟨g, 0, none⟩)] 24] := HS.join (F := []) (G := [row A8 L.length c8 (ci .i64 L) 3 1]) H_
  clear H_
  refine ql (.slice A8 L.length c8) (by kernel_rfl) (by kernel_rfl) ?_
  refine wpList_nil ?_
  refine x_then ?_
  refine wp_ret ?_
  refine ret_ (.slice A8 L.length c8) (by kernel_rfl) ?_
  replace HS : St W (owns []) W3 [row A8 L.length c8 (ci .i64 L) 3 1] := St.tail (F := [blk b1 [.pointer (some ⟨g, 0, none⟩)] 24]) (HS.perm (perm_ [1, 0] (by kernel_rfl) rfl))
  exact ⟨A8, c8, rfl, HS⟩

set_option maxRecDepth 100000 in
set_option maxHeartbeats 1000000 in
theorem dwithin (g c : Nat) (A : Option Addr) (ws : List Int) (n : Int) (h c2 : Nat) (B : Option Addr) (vs : List Int) (m : Int) (L M : List Int) (W : World) (hz0 : W.cell? ⟨g, 0, none⟩ = some (.slice A ws.length c)) (hz1 : W.cell? ⟨g, 1, none⟩ = some (.int .i64 n)) (hr : Rd W A (ci .u64 ws)) (hR : Rep ws n L) (hn : n ≤ 1048576) (hy0 : W.cell? ⟨h, 0, none⟩ = some (.slice B vs.length c2)) (hy1 : W.cell? ⟨h, 1, none⟩ = some (.int .i64 m)) (hs : Rd W B (ci .u64 vs)) (hM : Rep vs m M) (hm : m ≤ 1048576) (hT : TabAt64 W) : Calls Tryd.prog 10 #[.pointer (some ⟨g, 0, none⟩), .pointer (some ⟨h, 0, none⟩)] W fun e W' => e = .returned (.bool (wiB L M)) ∧ St W (owns []) W' [] := by
  have HS : St W (owns []) W [] := St.start W _
  have hll := hR.llen
  refine calls_enterM [.pointer (some ⟨g, 0, none⟩), .pointer (some ⟨h, 0, none⟩), undef, undef, undef, undef, undef, undef, undef, undef, undef, undef, undef] Tryd.func10 rfl (by kernel_rfl) ?_
  refine wp_seq ?_
  refine wp_region_lit ?_
  refine kb HS [.pointer (some ⟨h, 0, none⟩)] 24 (fun g => .pointer (some ⟨g, 0, none⟩)) (by kernel_rfl) (by kernel_rfl) ?_
  intro g1 W2 H_
  replace HS : St W (owns []) W2 [blk g1 [.pointer (some ⟨h, 0, none⟩)] 24] := H_
  clear H_
  refine kb HS [.bool false] 4 (fun g => .pointer (some ⟨g, 0, none⟩)) (by kernel_rfl) (by kernel_rfl) ?_
  intro g3 W4 H_
  replace HS : St W (owns []) W4 [blk g3 [.bool false] 4, blk g1 [.pointer (some ⟨h, 0, none⟩)] 24] := H_
  clear H_
  refine wpList_nil ?_
  refine x_then ?_
  refine wp_seq ?_
  refine wp_seq ?_
  refine wp_region_lit ?_
  refine ql (.pointer (some ⟨g, 0, none⟩)) (by kernel_rfl) (by kernel_rfl) ?_
  refine qc (f := 14) (args := #[.pointer (some ⟨g, 0, none⟩)]) (by kernel_rfl) (R_call #[.pointer (some ⟨g, 0, none⟩)] Tryd.func14 (by kernel_rfl) (by kernel_rfl) (by kernel_rfl)) ?_
  refine (dall g _).mono ?_
  rintro e W6 ⟨b5, rfl, H_⟩
  refine ⟨_, rfl, ?_⟩
  replace HS : St W (owns []) W6 [blk b5 [.pointer (some ⟨g, 0, none⟩)] 24, blk g3 [.bool false] 4, blk g1 [.pointer (some ⟨h, 0, none⟩)] 24] := HS.join (F := []) (G := [blk b5 [.pointer (some ⟨g, 0, none⟩)] 24]) H_
  clear H_
  refine wpList_nil ?_
  refine x_then ?_
  refine wp_block ?_
  have HDT : DnT b5 g c A ws n _ := ⟨⟨HS.cell (i := 0) (j := 0) rfl rfl, HS.old0 hz0, HS.old0 hz1, hr.old0 HS⟩, hT.old0 HS⟩
  have HSb := HS
  refine rangeF (gf := 28) (lb := #[.pointer (some ⟨b5, 0, none⟩)]) (m := 0) (by kernel_rfl) (enters_of Tryd.func28 (by kernel_rfl) rfl) (dall_stops b5 g c A ws n L _ HDT.1.hb HDT.1.h0 HDT.1.h1 HDT.1.hr hR hn HDT.2 0) (fun h_ k_ => fun x_ => k_ (h_ x_)) (fun X l_ o_ o2_ _ h1_ h2_ _ => fun x_ => x_.put h1_ h2_)
    (fun pre w' => (∀ y ∈ pre, y ∈ M) ∧ St W (owns []) w' [blk b5 [.pointer (some ⟨g, 0, none⟩)] 24, blk g3 [.bool false] 4, blk g1 [.pointer (some ⟨h, 0, none⟩)] 24])
    (fun c pre w' => (c = Code.ret ∧ (∃ y ∈ pre, y ∉ M) ∧ St W (owns []) w' [blk b5 [.pointer (some ⟨g, 0, none⟩)] 24, blk g3 [.bool false] 4, blk g1 [.pointer (some ⟨h, 0, none⟩)] 24]))
    (fun s_ A_ B_ r_ h_ hg_ hr_ => by obtain ⟨hp, HS⟩ := h_; exact ⟨hp, HS.grown (cel_cons blk_cel (cel_cons blk_cel (cel_cons blk_cel cel_nil))) HSb.le hg_ hr_⟩)
    (fun c_ s_ A_ B_ r_ h_ hg_ hr_ => (fun ⟨hc_, ⟨hp2, HS⟩⟩ => ⟨hc_, hp2, HS.grown (cel_cons blk_cel (cel_cons blk_cel (cel_cons blk_cel cel_nil))) HSb.le hg_ hr_⟩) h_)
    (by exact ⟨(fun y hy => nomatch hy), HS⟩)
    (fun x => [.pointer (some ⟨g, 0, none⟩), .pointer (some ⟨h, 0, none⟩), undef, .pointer (some ⟨g1, 0, none⟩), .pointer (some ⟨g3, 0, none⟩), .int .i64 x, .pointer (some ⟨g, 0, none⟩), .func (.func 28) #[] #[.pointer (some ⟨b5, 0, none⟩)], .int .i64 x, undef, undef, undef, undef]) ?_ ?_ ?_ ?_
  · intro l x W7 K_ hK_
    refine wp_region_litR (by kernel_rfl) (fun ⟨_, _, h_⟩ => (h_ : False)) ?_
    refine ql (.int .i64 x) (by kernel_rfl) (by kernel_rfl) ?_
    refine wpList_nil ?_
    refine x_then ?_
    exact kk_ (congrArg Fr (by kernel_rfl)) hK_
  · intro l pre x W7 hI_ hlt
    obtain ⟨hp, HS⟩ := hI_
    have HO := HS
    replace HS := HO.root
    refine wpIn_block ?_
    refine wpIn_seq ?_
    refine wp_region_litR (by kernel_rfl) (fun ⟨_, _, h_⟩ => (h_ : False)) ?_
    refine ql (.pointer (some ⟨h, 0, none⟩)) (by kernel_rfl) (R_load (p := ⟨g1, 0, none⟩) (by kernel_rfl) (by kernel_rfl) (by kernel_rfl) (HS.cell (i := 2) (j := 0) rfl rfl)) ?_
    refine ql (.int .i64 x) (by kernel_rfl) (by kernel_rfl) ?_
    refine qc (f := 15) (args := #[.pointer (some ⟨h, 0, none⟩), .int .i64 x]) (by kernel_rfl) (R_call #[.pointer (some ⟨h, 0, none⟩), .int .i64 x] Tryd.func15 (by kernel_rfl) (by kernel_rfl) (by kernel_rfl)) ?_
    by_cases hv : x ∈ M
    · skip
      refine (dhas_t h c2 B vs m M x _ (HO.old0 hy0) (HO.old0 hy1) (hs.old0 HO) hM hm hv).mono ?_
      rintro e W8 ⟨rfl, H_⟩
      refine ⟨_, rfl, ?_⟩
      replace HS : St W7 (owns [blk b5 [.pointer (some ⟨g, 0, none⟩)] 24, blk g3 [.bool false] 4, blk g1 [.pointer (some ⟨h, 0, none⟩)] 24]) W8 [blk b5 [.pointer (some ⟨g, 0, none⟩)] 24, blk g3 [.bool false] 4, blk g1 [.pointer (some ⟨h, 0, none⟩)] 24] := HS.join (F := []) (G := []) H_
      clear H_
      refine ql (.bool false) (by kernel_rfl) (by kernel_rfl) ?_
      refine wpList_nil ?_
      refine x_then ?_
      refine wpIn_cond_false (by kernel_rfl) ?_
      refine wpIn_skip ?_
      refine x_inb ?_
      have HF := HO.unroot HS
      exact og_n (HS.keepsFrom HO (cel_cons blk_cel (cel_cons blk_cel (cel_cons blk_cel cel_nil))) _) (fun _ => ⟨⟨HF.cell (i := 0) (j := 0) rfl rfl, HF.old0 hz0, HF.old0 hz1, hr.old0 HF⟩, hT.old0 HF⟩) ⟨all_snoc hp hv, HF⟩
    · skip
      refine (dhas_n h c2 B vs m M x _ (HO.old0 hy0) (HO.old0 hy1) (hs.old0 HO) hM hm hv).mono ?_
      rintro e W9 ⟨rfl, H_⟩
      refine ⟨_, rfl, ?_⟩
      replace HS : St W7 (owns [blk b5 [.pointer (some ⟨g, 0, none⟩)] 24, blk g3 [.bool false] 4, blk g1 [.pointer (some ⟨h, 0, none⟩)] 24]) W9 [blk b5 [.pointer (some ⟨g, 0, none⟩)] 24, blk g3 [.bool false] 4, blk g1 [.pointer (some ⟨h, 0, none⟩)] 24] := HS.join (F := []) (G := []) H_
      clear H_
      refine ql (.bool true) (by kernel_rfl) (by kernel_rfl) ?_
      refine wpList_nil ?_
      refine x_then ?_
      refine wpIn_cond_true (by kernel_rfl) ?_
      refine wpIn_seq ?_
      refine wp_region_litR (by kernel_rfl) (fun ⟨_, _, h_⟩ => (h_ : False)) ?_
      refine ks (v := .bool false) HS 1 rfl (0) [.bool false] (by kernel_rfl) (by kernel_rfl) (by kernel_rfl) (by kernel_rfl) (by kernel_rfl) (one_ (by kernel_rfl)) (Nat.le_of_ble_eq_true rfl) rfl ?_
      intro W10 H_
      replace HS : St W7 (owns [blk b5 [.pointer (some ⟨g, 0, none⟩)] 24, blk g3 [.bool false] 4, blk g1 [.pointer (some ⟨h, 0, none⟩)] 24]) W10 [blk b5 [.pointer (some ⟨g, 0, none⟩)] 24, blk g3 [.bool false] 4, blk g1 [.pointer (some ⟨h, 0, none⟩)] 24] := H_
      clear H_
      refine wpList_nil ?_
      refine x_then ?_
      refine wpIn_ret ?_
      refine x_inbR ?_
      have HF := HO.unroot HS
      exact og_r (HS.keepsFrom HO (cel_cons blk_cel (cel_cons blk_cel (cel_cons blk_cel cel_nil))) _) ⟨rfl, ⟨x, by simp, hv⟩, HF⟩
  · intro D xs W7 hD hS hI_ hdf
    have hS : L = xs := hS.symm
    subst hS
    obtain ⟨hp, HS⟩ := hI_
    replace HS := HS.addD (cel_cons blk_cel (cel_cons blk_cel (cel_cons blk_cel cel_nil))) (Nat.le_trans HSb.le hD) hdf
    refine x_inb ?_
    refine x_then ?_
    refine wp_seq ?_
    refine wp_region_lit ?_
    refine ks (v := .bool true) HS 2 rfl (0) [.bool true] (by kernel_rfl) (by kernel_rfl) (by kernel_rfl) (by kernel_rfl) (by kernel_rfl) (one_ (by kernel_rfl)) (Nat.le_of_ble_eq_true rfl) rfl ?_
    intro W11 H_
    replace HS : St W (owns []) W11 [dfr D, blk b5 [.pointer (some ⟨g, 0, none⟩)] 24, blk g3 [.bool true] 4, blk g1 [.pointer (some ⟨h, 0, none⟩)] 24] := H_
    clear H_
    refine wpList_nil ?_
    refine x_then ?_
    refine wp_ret ?_
    refine retD_ HS ?_
    clear HS
    intro W12 HS
    refine ⟨.bool true, res1 rfl (oneRes_one (p := ⟨g3, 0, none⟩) (by kernel_rfl) (by kernel_rfl) (by kernel_rfl) (HS.cell (i := 1) (j := 0) rfl rfl)), ?_⟩
    replace HS := HS.drop1
    replace HS := HS.drop1
    replace HS := HS.drop1
    exact ⟨by rw [wiB_t hp], HS⟩
  · intro D c pre W7 hD hSp hIx_ hdf
    obtain ⟨rfl, hp2, HS⟩ := hIx_
    replace HS := HS.addD (cel_cons blk_cel (cel_cons blk_cel (cel_cons blk_cel cel_nil))) (Nat.le_trans HSb.le hD) hdf
    refine wp_ret ?_
    refine x_inbR ?_
    refine x_thenR ?_
    refine retD_ HS ?_
    clear HS
    intro W13 HS
    refine ⟨.bool false, res1 rfl (oneRes_one (p := ⟨g3, 0, none⟩) (by kernel_rfl) (by kernel_rfl) (by kernel_rfl) (HS.cell (i := 1) (j := 0) rfl rfl)), ?_⟩
    replace HS := HS.drop1
    replace HS := HS.drop1
    replace HS := HS.drop1
    exact ⟨by rw [wiB_f (let ⟨y, hy, hn_⟩ := hp2; ⟨y, hSp.subset hy, hn_⟩)], HS⟩


set_option maxRecDepth 100000 in
set_option maxHeartbeats 1000000 in
theorem r3has (A : Option Addr) (c : Nat) (L : List Int) (n : Int) (i : Int) (W : World) (hr : Rd W A (ci .i64 L)) (hl : L.length ≤ 100000) : Calls Tryd.prog 32 #[.agg #[.int .i64 n, .slice A L.length c], .int .i64 i] W fun e W' => e = .returned (.bool (decide (i ∈ L))) ∧ St W (owns []) W' [] := by
  have HS : St W (owns []) W [] := St.start W _
  refine calls_enter [.agg #[.int .i64 n, .slice A L.length c], .int .i64 i, undef, undef, undef, undef, undef, undef, undef, undef, undef, undef, undef, undef, undef, undef, undef, undef, undef, undef] Tryd.func32 rfl (by kernel_rfl) ?_
  refine wp_seq ?_
  refine wp_region_lit ?_
  refine kb HS [.int .i64 n, .slice A L.length c] 39 (fun g => .pointer (some ⟨g, 0, none⟩)) (by kernel_rfl) (by kernel_rfl) ?_
  intro g1 W2 H_
  replace HS : St W (owns []) W2 [blk g1 [.int .i64 n, .slice A L.length c] 39] := H_
  clear H_
  refine ql (.bool false) (by kernel_rfl) (by kernel_rfl) ?_
  refine wpList_nil ?_
  refine x_then ?_
  refine wp_seq ?_
  refine wp_seq ?_
  refine wp_region_lit ?_
  refine ql (.int .i64 0) (by kernel_rfl) (by kernel_rfl) ?_
  refine wpList_nil ?_
  refine x_then ?_
  refine wp_block ?_
  refine wp_loop_ghost (fun kq a' w' => ∃ (J3 : Nat → Value) (k : Int) , a' = Fr [.agg #[.int .i64 n, .slice A L.length c], .int .i64 i, .pointer (some ⟨g1, 0, none⟩), undef, (J3 4), .int .i64 k, (J3 6), (J3 7), (J3 8), (J3 9), (J3 10), (J3 11), (J3 12), (J3 13), (J3 14), (J3 15), (J3 16), (J3 17), (J3 18), (J3 19)] ∧ kq = (L.length - (k).toNat) ∧ (0 ≤ k) ∧ (k ≤ L.length) ∧ (i ∉ L.take (k).toNat) ∧ St W (owns []) w' [blk g1 [.int .i64 n, .slice A L.length c] 39]) (L.length - ((0 : Int)).toNat) ⟨(fun k_ : Nat => List.getD [.agg #[.int .i64 n, .slice A L.length c], .int .i64 i, .pointer (some ⟨g1, 0, none⟩), undef, .bool false, .int .i64 0, undef, undef, undef, undef, undef, undef, undef, undef, undef, undef, undef, undef, undef, undef] k_ undef), (0 : Int), congrArg Fr (by kernel_rfl), rfl, by omega, by omega, (by simp), HS⟩ ?_
  clear HS
  intro kq4 a' W5 hrel
  obtain ⟨J3, k, rfl, hk, k0, k1, hn, HS⟩ := hrel
  refine wp_seq ?_
  refine wp_seq ?_
  refine wp_region_lit ?_
  refine ql (.int .i64 k) (by kernel_rfl) (by kernel_rfl) ?_
  refine ql (.pointer (some ⟨g1, 1, none⟩)) (by kernel_rfl) (by kernel_rfl) ?_
  refine ql (.slice A L.length c) (by kernel_rfl) (R_load (p := ⟨g1, 1, none⟩) (by kernel_rfl) (by kernel_rfl) (by kernel_rfl) (HS.cell (i := 0) (j := 1) rfl rfl)) ?_
  refine ql (.int .i64 (L.length : Int)) (by kernel_rfl) (by kernel_rfl) ?_
  by_cases hc6 : k < (L.length : Int)
  · skip
    refine ql (.bool true) (by kernel_rfl) (R_bool (p := k < (L.length : Int)) (by kernel_rfl) (hc6)) ?_
    refine wpList_nil ?_
    refine x_then ?_
    refine wp_cond_true (by kernel_rfl) ?_
    refine wp_skip ?_
    refine x_then ?_
    refine wp_seq ?_
    refine wp_block ?_
    refine wp_seq ?_
    refine wp_region_lit ?_
    refine ql (.pointer (some ⟨g1, 1, none⟩)) (by kernel_rfl) (by kernel_rfl) ?_
    refine ql (.slice A L.length c) (by kernel_rfl) (R_load (p := ⟨g1, 1, none⟩) (by kernel_rfl) (by kernel_rfl) (by kernel_rfl) (HS.cell (i := 0) (j := 1) rfl rfl)) ?_
    refine ql (.int .i64 k) (by kernel_rfl) (by kernel_rfl) ?_
    obtain ⟨ad7, rfl⟩ := Rd.isSome_ hr (by rw [ci_len]; omega)
    refine ql (.pointer (some (ad7.add k.toNat))) (by kernel_rfl) (R_indexA1 (k := .i64) (p := ad7) (n := L.length) (c := c) (i := k) (by kernel_rfl) (by kernel_rfl) Tryd.underlying22 (by kernel_rfl) (by omega) (by omega)) ?_
    refine ql (.int .i64 (rdI L k)) (by kernel_rfl) (R_load (p := ad7.add k.toNat) (by kernel_rfl) (by kernel_rfl) (by kernel_rfl) (HS.old0 (hr.at_ (ci_rd (i := k) (by omega) (by omega))))) ?_
    refine ql (.int .i64 i) (by kernel_rfl) (by kernel_rfl) ?_
    by_cases hc8 : (rdI L k) = i
    · skip
      refine ql (.bool true) (by kernel_rfl) (R_beq (b := (rdI L k == i)) (by kernel_rfl) (beq_t (hc8))) ?_
      refine wpList_nil ?_
      refine x_then ?_
      refine wp_cond_true (by kernel_rfl) ?_
      refine wp_seq ?_
      refine wp_region_lit ?_
      refine ql (.bool true) (by kernel_rfl) (by kernel_rfl) ?_
      refine wpList_nil ?_
      refine x_then ?_
      refine wp_ret ?_
      refine x_inbR ?_
      refine x_thenR ?_
      refine x_thenR ?_
      refine x_inbR ?_
      refine x_thenR ?_
      refine ret_ (.bool true) (by kernel_rfl) ?_
      replace HS := HS.drop1
      exact ⟨by rw [decide_eq_true (hc8 ▸ mem_rd k0 (by omega))], HS⟩
    · skip
      refine ql (.bool false) (by kernel_rfl) (R_beq (b := (rdI L k == i)) (by kernel_rfl) (beq_f (hc8))) ?_
      refine wpList_nil ?_
      refine x_then ?_
      refine wp_cond_false (by kernel_rfl) ?_
      refine wp_skip ?_
      refine x_inb ?_
      refine x_then ?_
      refine wp_region_lit ?_
      refine ql (.int .i64 k) (by kernel_rfl) (by kernel_rfl) ?_
      refine ql (.int .i64 (k + 1)) (by kernel_rfl) (R_int (by kernel_rfl) (w64 (by omega))) ?_
      refine ql (.int .i64 (k + 1)) (by kernel_rfl) (by kernel_rfl) ?_
      refine wpList_nil ?_
      refine x_then ?_
      exact ⟨L.length - (k + 1).toNat, by omega, (fun k_ : Nat => List.getD [.agg #[.int .i64 n, .slice (some ad7) L.length c], .int .i64 i, .pointer (some ⟨g1, 0, none⟩), undef, (J3 4), .int .i64 (k + 1), .int .i64 k, .pointer (some ⟨g1, 1, none⟩), .slice (some ad7) L.length c, .int .i64 (L.length : Int), .bool true, .int .i64 k, .int .i64 (k + 1), .pointer (some ⟨g1, 1, none⟩), .slice (some ad7) L.length c, .int .i64 k, .pointer (some (ad7.add k.toNat)), .int .i64 (rdI L k), .int .i64 i, .bool false] k_ undef), k + 1, congrArg Fr (by kernel_rfl), rfl, by omega, by omega, no_take hn k0 (by omega) hc8, HS⟩
  · skip
    refine ql (.bool false) (by kernel_rfl) (R_nbool (p := k < (L.length : Int)) (by kernel_rfl) (hc6)) ?_
    refine wpList_nil ?_
    refine x_then ?_
    refine wp_cond_false (by kernel_rfl) ?_
    refine wp_exit ?_
    refine x_thenE ?_
    refine x_thenE ?_
    refine x_hit ?_
    refine x_then ?_
    refine wp_seq ?_
    refine wp_region_lit ?_
    refine ql (.bool false) (by kernel_rfl) (by kernel_rfl) ?_
    refine wpList_nil ?_
    refine x_then ?_
    refine wp_ret ?_
    refine ret_ (.bool false) (by kernel_rfl) ?_
    replace HS := HS.drop1
    rw [show k.toNat = L.length by omega, List.take_length] at hn
    exact ⟨by rw [decide_eq_false hn], HS⟩

set_option maxRecDepth 100000 in
set_option maxHeartbeats 1000000 in
theorem r3next (A : Option Addr) (c : Nat) (L : List Int) (n : Int) (i : Int) (W : World) (hr : Rd W A (ci .i64 L)) (hl : L.length ≤ 100000) : Calls Tryd.prog 33 #[.agg #[.int .i64 n, .slice A L.length c], .int .i64 i] W fun e W' => e = .returned (.int .i64 (nxt L i)) ∧ St W (owns []) W' [] := by
  have HS : St W (owns []) W [] := St.start W _
  refine calls_enter [.agg #[.int .i64 n, .slice A L.length c], .int .i64 i, undef, undef, undef, undef, undef, undef, undef, undef, undef, undef, undef, undef, undef, undef, undef, undef, undef, undef, undef, undef, undef, undef, undef] Tryd.func33 rfl (by kernel_rfl) ?_
  refine wp_seq ?_
  refine wp_region_lit ?_
  refine kb HS [.int .i64 n, .slice A L.length c] 39 (fun g => .pointer (some ⟨g, 0, none⟩)) (by kernel_rfl) (by kernel_rfl) ?_
  intro g1 W2 H_
  replace HS : St W (owns []) W2 [blk g1 [.int .i64 n, .slice A L.length c] 39] := H_
  clear H_
  refine ql (.int .i64 0) (by kernel_rfl) (by kernel_rfl) ?_
  refine wpList_nil ?_
  refine x_then ?_
  refine wp_seq ?_
  refine wp_seq ?_
  refine wp_region_lit ?_
  refine ql (.int .i64 0) (by kernel_rfl) (by kernel_rfl) ?_
  refine wpList_nil ?_
  refine x_then ?_
  refine wp_block ?_
  refine wp_loop_ghost (fun kq a' w' => ∃ (J3 : Nat → Value) (k : Int) , a' = Fr [.agg #[.int .i64 n, .slice A L.length c], .int .i64 i, .pointer (some ⟨g1, 0, none⟩), undef, (J3 4), .int .i64 k, (J3 6), (J3 7), (J3 8), (J3 9), (J3 10), (J3 11), (J3 12), (J3 13), (J3 14), (J3 15), (J3 16), (J3 17), (J3 18), (J3 19), (J3 20), (J3 21), (J3 22), (J3 23), (J3 24)] ∧ kq = (L.length - (k).toNat) ∧ (0 ≤ k) ∧ (k ≤ L.length) ∧ (∀ x ∈ L.take (k).toNat, ¬ i ≤ x) ∧ St W (owns []) w' [blk g1 [.int .i64 n, .slice A L.length c] 39]) (L.length - ((0 : Int)).toNat) ⟨(fun k_ : Nat => List.getD [.agg #[.int .i64 n, .slice A L.length c], .int .i64 i, .pointer (some ⟨g1, 0, none⟩), undef, .int .i64 0, .int .i64 0, undef, undef, undef, undef, undef, undef, undef, undef, undef, undef, undef, undef, undef, undef, undef, undef, undef, undef, undef] k_ undef), (0 : Int), congrArg Fr (by kernel_rfl), rfl, by omega, by omega, (by simp), HS⟩ ?_
  clear HS
  intro kq4 a' W5 hrel
  obtain ⟨J3, k, rfl, hk, k0, k1, hn, HS⟩ := hrel
  refine wp_seq ?_
  refine wp_seq ?_
  refine wp_region_lit ?_
  refine ql (.int .i64 k) (by kernel_rfl) (by kernel_rfl) ?_
  refine ql (.pointer (some ⟨g1, 1, none⟩)) (by kernel_rfl) (by kernel_rfl) ?_
  refine ql (.slice A L.length c) (by kernel_rfl) (R_load (p := ⟨g1, 1, none⟩) (by kernel_rfl) (by kernel_rfl) (by kernel_rfl) (HS.cell (i := 0) (j := 1) rfl rfl)) ?_
  refine ql (.int .i64 (L.length : Int)) (by kernel_rfl) (by kernel_rfl) ?_
  by_cases hc6 : k < (L.length : Int)
  · skip
    refine ql (.bool true) (by kernel_rfl) (R_bool (p := k < (L.length : Int)) (by kernel_rfl) (hc6)) ?_
    refine wpList_nil ?_
    refine x_then ?_
    refine wp_cond_true (by kernel_rfl) ?_
    refine wp_skip ?_
    refine x_then ?_
    refine wp_seq ?_
    refine wp_block ?_
    refine wp_seq ?_
    refine wp_region_lit ?_
    refine ql (.pointer (some ⟨g1, 1, none⟩)) (by kernel_rfl) (by kernel_rfl) ?_
    refine ql (.slice A L.length c) (by kernel_rfl) (R_load (p := ⟨g1, 1, none⟩) (by kernel_rfl) (by kernel_rfl) (by kernel_rfl) (HS.cell (i := 0) (j := 1) rfl rfl)) ?_
    refine ql (.int .i64 k) (by kernel_rfl) (by kernel_rfl) ?_
    obtain ⟨ad7, rfl⟩ := Rd.isSome_ hr (by rw [ci_len]; omega)
    refine ql (.pointer (some (ad7.add k.toNat))) (by kernel_rfl) (R_indexA1 (k := .i64) (p := ad7) (n := L.length) (c := c) (i := k) (by kernel_rfl) (by kernel_rfl) Tryd.underlying22 (by kernel_rfl) (by omega) (by omega)) ?_
    refine ql (.int .i64 (rdI L k)) (by kernel_rfl) (R_load (p := ad7.add k.toNat) (by kernel_rfl) (by kernel_rfl) (by kernel_rfl) (HS.old0 (hr.at_ (ci_rd (i := k) (by omega) (by omega))))) ?_
    refine ql (.int .i64 i) (by kernel_rfl) (by kernel_rfl) ?_
    by_cases hc8 : (rdI L k) ≥ i
    · skip
      refine ql (.bool true) (by kernel_rfl) (R_bool (p := (rdI L k) ≥ i) (by kernel_rfl) (hc8)) ?_
      refine wpList_nil ?_
      refine x_then ?_
      refine wp_cond_true (by kernel_rfl) ?_
      refine wp_seq ?_
      refine wp_region_lit ?_
      refine ql (.pointer (some ⟨g1, 1, none⟩)) (by kernel_rfl) (by kernel_rfl) ?_
      refine ql (.slice (some ad7) L.length c) (by kernel_rfl) (R_load (p := ⟨g1, 1, none⟩) (by kernel_rfl) (by kernel_rfl) (by kernel_rfl) (HS.cell (i := 0) (j := 1) rfl rfl)) ?_
      refine ql (.int .i64 k) (by kernel_rfl) (by kernel_rfl) ?_
      refine ql (.pointer (some (ad7.add k.toNat))) (by kernel_rfl) (R_indexA1 (k := .i64) (p := ad7) (n := L.length) (c := c) (i := k) (by kernel_rfl) (by kernel_rfl) Tryd.underlying22 (by kernel_rfl) (by omega) (by omega)) ?_
      refine ql (.int .i64 (rdI L k)) (by kernel_rfl) (R_load (p := ad7.add k.toNat) (by kernel_rfl) (by kernel_rfl) (by kernel_rfl) (HS.old0 (hr.at_ (ci_rd (i := k) (by omega) (by omega))))) ?_
      refine ql (.int .i64 (rdI L k)) (by kernel_rfl) (by kernel_rfl) ?_
      refine wpList_nil ?_
      refine x_then ?_
      refine wp_ret ?_
      refine x_inbR ?_
      refine x_thenR ?_
      refine x_thenR ?_
      refine x_inbR ?_
      refine x_thenR ?_
      refine ret_ (.int .i64 (rdI L k)) (by kernel_rfl) ?_
      replace HS := HS.drop1
      exact ⟨by rw [nxt_at k0 (by omega) hn hc8], HS⟩
    · skip
      refine ql (.bool false) (by kernel_rfl) (R_nbool (p := (rdI L k) ≥ i) (by kernel_rfl) (hc8)) ?_
      refine wpList_nil ?_
      refine x_then ?_
      refine wp_cond_false (by kernel_rfl) ?_
      refine wp_skip ?_
      refine x_inb ?_
      refine x_then ?_
      refine wp_region_lit ?_
      refine ql (.int .i64 k) (by kernel_rfl) (by kernel_rfl) ?_
      refine ql (.int .i64 (k + 1)) (by kernel_rfl) (R_int (by kernel_rfl) (w64 (by omega))) ?_
      refine ql (.int .i64 (k + 1)) (by kernel_rfl) (by kernel_rfl) ?_
      refine wpList_nil ?_
      refine x_then ?_
      exact ⟨L.length - (k + 1).toNat, by omega, (fun k_ : Nat => List.getD [.agg #[.int .i64 n, .slice (some ad7) L.length c], .int .i64 i, .pointer (some ⟨g1, 0, none⟩), undef, (J3 4), .int .i64 (k + 1), .int .i64 k, .pointer (some ⟨g1, 1, none⟩), .slice (some ad7) L.length c, .int .i64 (L.length : Int), .bool true, .int .i64 k, .int .i64 (k + 1), .pointer (some ⟨g1, 1, none⟩), .slice (some ad7) L.length c, .int .i64 k, .pointer (some (ad7.add k.toNat)), .int .i64 (rdI L k), .int .i64 i, .bool false, (J3 20), (J3 21), (J3 22), (J3 23), (J3 24)] k_ undef), k + 1, congrArg Fr (by kernel_rfl), rfl, by omega, by omega, lt_take hn k0 (by omega) hc8, HS⟩
  · skip
    refine ql (.bool false) (by kernel_rfl) (R_nbool (p := k < (L.length : Int)) (by kernel_rfl) (hc6)) ?_
    refine wpList_nil ?_
    refine x_then ?_
    refine wp_cond_false (by kernel_rfl) ?_
    refine wp_exit ?_
    refine x_thenE ?_
    refine x_thenE ?_
    refine x_hit ?_
    refine x_then ?_
    refine wp_seq ?_
    refine wp_region_lit ?_
    refine ql (.int .i64 (-1)) (by kernel_rfl) (by kernel_rfl) ?_
    refine wpList_nil ?_
    refine x_then ?_
    refine wp_ret ?_
    refine ret_ (.int .i64 (-1)) (by kernel_rfl) ?_
    replace HS := HS.drop1
    rw [show k.toNat = L.length by omega, List.take_length] at hn
    exact ⟨by rw [nxt_none hn], HS⟩

set_option maxRecDepth 100000 in
set_option maxHeartbeats 1000000 in
theorem r3within (A : Option Addr) (c : Nat) (L : List Int) (n : Int) (B : Option Addr) (c2 : Nat) (M : List Int) (m : Int) (W : World) (hr : Rd W A (ci .i64 L)) (hl : L.length ≤ 100000) (hs : Rd W B (ci .i64 M)) (hl2 : M.length ≤ 100000) : Calls Tryd.prog 19 #[.agg #[.int .i64 n, .slice A L.length c], .agg #[.int .i64 m, .slice B M.length c2]] W fun e W' => e = .returned (.bool (wiB L M)) ∧ St W (owns []) W' [] := by
  have HS : St W (owns []) W [] := St.start W _
  refine calls_enter [.agg #[.int .i64 n, .slice A L.length c], .agg #[.int .i64 m, .slice B M.length c2], undef, undef, undef, undef, undef, undef, undef, undef, undef, undef, undef, undef, undef, undef, undef, undef, undef, undef, undef] Tryd.func19 rfl (by kernel_rfl) ?_
  refine wp_seq ?_
  refine wp_region_lit ?_
  refine kb HS [.int .i64 n, .slice A L.length c] 39 (fun g => .pointer (some ⟨g, 0, none⟩)) (by kernel_rfl) (by kernel_rfl) ?_
  intro g1 W2 H_
  replace HS : St W (owns []) W2 [blk g1 [.int .i64 n, .slice A L.length c] 39] := H_
  clear H_
  refine kb HS [.int .i64 m, .slice B M.length c2] 39 (fun g => .pointer (some ⟨g, 0, none⟩)) (by kernel_rfl) (by kernel_rfl) ?_
  intro g3 W4 H_
  replace HS : St W (owns []) W4 [blk g3 [.int .i64 m, .slice B M.length c2] 39, blk g1 [.int .i64 n, .slice A L.length c] 39] := H_
  clear H_
  refine ql (.bool false) (by kernel_rfl) (by kernel_rfl) ?_
  refine wpList_nil ?_
  refine x_then ?_
  refine wp_seq ?_
  refine wp_seq ?_
  refine wp_region_lit ?_
  refine ql (.int .i64 0) (by kernel_rfl) (by kernel_rfl) ?_
  refine wpList_nil ?_
  refine x_then ?_
  refine wp_block ?_
  refine wp_loop_ghost (fun kq a' w' => ∃ (J5 : Nat → Value) (k : Int) , a' = Fr [.agg #[.int .i64 n, .slice A L.length c], .agg #[.int .i64 m, .slice B M.length c2], .pointer (some ⟨g1, 0, none⟩), .pointer (some ⟨g3, 0, none⟩), (J5 4), .int .i64 k, (J5 6), (J5 7), (J5 8), (J5 9), (J5 10), (J5 11), (J5 12), (J5 13), (J5 14), (J5 15), (J5 16), (J5 17), (J5 18), (J5 19), (J5 20)] ∧ kq = (L.length - (k).toNat) ∧ (0 ≤ k) ∧ (k ≤ L.length) ∧ (∀ y ∈ L.take (k).toNat, y ∈ M) ∧ St W (owns []) w' [blk g3 [.int .i64 m, .slice B M.length c2] 39, blk g1 [.int .i64 n, .slice A L.length c] 39]) (L.length - ((0 : Int)).toNat) ⟨(fun k_ : Nat => List.getD [.agg #[.int .i64 n, .slice A L.length c], .agg #[.int .i64 m, .slice B M.length c2], .pointer (some ⟨g1, 0, none⟩), .pointer (some ⟨g3, 0, none⟩), .bool false, .int .i64 0, undef, undef, undef, undef, undef, undef, undef, undef, undef, undef, undef, undef, undef, undef, undef] k_ undef), (0 : Int), congrArg Fr (by kernel_rfl), rfl, by omega, by omega, (by simp), HS⟩ ?_
  clear HS
  intro kq6 a' W7 hrel
  obtain ⟨J5, k, rfl, hk, k0, k1, hp, HS⟩ := hrel
  refine wp_seq ?_
  refine wp_seq ?_
  refine wp_region_lit ?_
  refine ql (.int .i64 k) (by kernel_rfl) (by kernel_rfl) ?_
  refine ql (.pointer (some ⟨g1, 1, none⟩)) (by kernel_rfl) (by kernel_rfl) ?_
  refine ql (.slice A L.length c) (by kernel_rfl) (R_load (p := ⟨g1, 1, none⟩) (by kernel_rfl) (by kernel_rfl) (by kernel_rfl) (HS.cell (i := 1) (j := 1) rfl rfl)) ?_
  refine ql (.int .i64 (L.length : Int)) (by kernel_rfl) (by kernel_rfl) ?_
  by_cases hc8 : k < (L.length : Int)
  · skip
    refine ql (.bool true) (by kernel_rfl) (R_bool (p := k < (L.length : Int)) (by kernel_rfl) (hc8)) ?_
    refine wpList_nil ?_
    refine x_then ?_
    refine wp_cond_true (by kernel_rfl) ?_
    refine wp_skip ?_
    refine x_then ?_
    refine wp_seq ?_
    refine wp_block ?_
    refine wp_seq ?_
    refine rg_still HS 6 (by kernel_rfl) (by kernel_rfl) ?_
    intro W9 H_ HK_
    simp only [List.take_succ_cons, List.take_zero, List.drop_succ_cons, List.drop_zero]
    replace HS : St W (owns []) W9 [blk g3 [.int .i64 m, .slice B M.length c2] 39, blk g1 [.int .i64 n, .slice A L.length c] 39] := H_
    clear H_
    clear HK_
    refine qs (.agg #[.int .i64 m, .slice B M.length c2]) (by kernel_rfl) (R_loadN (p := ⟨g3, 0, none⟩) [.int .i64 m, .slice B M.length c2] (by kernel_rfl) (by kernel_rfl) (by kernel_rfl) (by kernel_rfl) (two_at (HS.cell (i := 0) (j := 0) rfl rfl) (HS.cell (i := 0) (j := 1) rfl rfl))) ?_
    refine qs (.pointer (some ⟨g1, 1, none⟩)) (by kernel_rfl) (by kernel_rfl) ?_
    refine qs (.slice A L.length c) (by kernel_rfl) (R_load (p := ⟨g1, 1, none⟩) (by kernel_rfl) (by kernel_rfl) (by kernel_rfl) (HS.cell (i := 1) (j := 1) rfl rfl)) ?_
    refine qs (.int .i64 k) (by kernel_rfl) (by kernel_rfl) ?_
    obtain ⟨ad10, rfl⟩ := Rd.isSome_ hr (by rw [ci_len]; omega)
    refine qs (.pointer (some (ad10.add k.toNat))) (by kernel_rfl) (R_indexA1 (k := .i64) (p := ad10) (n := L.length) (c := c) (i := k) (by kernel_rfl) (by kernel_rfl) Tryd.underlying22 (by kernel_rfl) (by omega) (by omega)) ?_
    refine qs (.int .i64 (rdI L k)) (by kernel_rfl) (R_load (p := ad10.add k.toNat) (by kernel_rfl) (by kernel_rfl) (by kernel_rfl) (HS.old0 (hr.at_ (ci_rd (i := k) (by omega) (by omega))))) ?_
    refine wpStill_nil ?_
    refine qc (f := 32) (args := #[.agg #[.int .i64 m, .slice B M.length c2], .int .i64 (rdI L k)]) (by kernel_rfl) (R_call #[.agg #[.int .i64 m, .slice B M.length c2], .int .i64 (rdI L k)] Tryd.func32 (by kernel_rfl) (by kernel_rfl) (by kernel_rfl)) ?_
    by_cases hv : rdI L k ∈ M
    · skip
      have hdx : decide (rdI L k ∈ M) = true := decide_eq_true hv
      refine (r3has B c2 M m (rdI L k) _ (hs.old0 HS) hl2).mono ?_
      rintro e W11 ⟨rfl, H_⟩
      rw [hdx]
      refine ⟨_, rfl, ?_⟩
      replace HS : St W (owns []) W11 [blk g3 [.int .i64 m, .slice B M.length c2] 39, blk g1 [.int .i64 n, .slice (some ad10) L.length c] 39] := HS.join (F := []) (G := []) H_
      clear H_
      refine ql (.bool false) (by kernel_rfl) (by kernel_rfl) ?_
      refine wpList_nil ?_
      refine x_then ?_
      refine wp_cond_false (by kernel_rfl) ?_
      refine wp_skip ?_
      refine x_inb ?_
      refine x_then ?_
      refine wp_region_lit ?_
      refine ql (.int .i64 k) (by kernel_rfl) (by kernel_rfl) ?_
      refine ql (.int .i64 (k + 1)) (by kernel_rfl) (R_int (by kernel_rfl) (w64 (by omega))) ?_
      refine ql (.int .i64 (k + 1)) (by kernel_rfl) (by kernel_rfl) ?_
      refine wpList_nil ?_
      refine x_then ?_
      exact ⟨L.length - (k + 1).toNat, by omega, (fun k_ : Nat => List.getD [.agg #[.int .i64 n, .slice (some ad10) L.length c], .agg #[.int .i64 m, .slice B M.length c2], .pointer (some ⟨g1, 0, none⟩), .pointer (some ⟨g3, 0, none⟩), (J5 4), .int .i64 (k + 1), .int .i64 k, .pointer (some ⟨g1, 1, none⟩), .slice (some ad10) L.length c, .int .i64 (L.length : Int), .bool true, .int .i64 k, .int .i64 (k + 1), .agg #[.int .i64 m, .slice B M.length c2], .pointer (some ⟨g1, 1, none⟩), .slice (some ad10) L.length c, .int .i64 k, .pointer (some (ad10.add k.toNat)), .int .i64 (rdI L k), .bool true, .bool false] k_ undef), k + 1, congrArg Fr (by kernel_rfl), rfl, by omega, by omega, wi_take hp k0 (by omega) hv, HS⟩
    · skip
      have hdx : decide (rdI L k ∈ M) = false := decide_eq_false hv
      refine (r3has B c2 M m (rdI L k) _ (hs.old0 HS) hl2).mono ?_
      rintro e W12 ⟨rfl, H_⟩
      rw [hdx]
      refine ⟨_, rfl, ?_⟩
      replace HS : St W (owns []) W12 [blk g3 [.int .i64 m, .slice B M.length c2] 39, blk g1 [.int .i64 n, .slice (some ad10) L.length c] 39] := HS.join (F := []) (G := []) H_
      clear H_
      refine ql (.bool true) (by kernel_rfl) (by kernel_rfl) ?_
      refine wpList_nil ?_
      refine x_then ?_
      refine wp_cond_true (by kernel_rfl) ?_
      refine wp_seq ?_
      refine wp_region_lit ?_
      refine ql (.bool false) (by kernel_rfl) (by kernel_rfl) ?_
      refine wpList_nil ?_
      refine x_then ?_
      refine wp_ret ?_
      refine x_inbR ?_
      refine x_thenR ?_
      refine x_thenR ?_
      refine x_inbR ?_
      refine x_thenR ?_
      refine ret_ (.bool false) (by kernel_rfl) ?_
      replace HS := HS.drop1
      replace HS := HS.drop1
      exact ⟨by rw [wiB_f ⟨_, mem_rd k0 (by omega), hv⟩], HS⟩
  · skip
    refine ql (.bool false) (by kernel_rfl) (R_nbool (p := k < (L.length : Int)) (by kernel_rfl) (hc8)) ?_
    refine wpList_nil ?_
    refine x_then ?_
    refine wp_cond_false (by kernel_rfl) ?_
    refine wp_exit ?_
    refine x_thenE ?_
    refine x_thenE ?_
    refine x_hit ?_
    refine x_then ?_
    refine wp_seq ?_
    refine wp_region_lit ?_
    refine ql (.bool true) (by kernel_rfl) (by kernel_rfl) ?_
    refine wpList_nil ?_
    refine x_then ?_
    refine wp_ret ?_
    refine ret_ (.bool true) (by kernel_rfl) ?_
    replace HS := HS.drop1
    replace HS := HS.drop1
    rw [show k.toNat = L.length by omega, List.take_length] at hp
    exact ⟨by rw [wiB_t hp], HS⟩

set_option maxRecDepth 100000 in
set_option maxHeartbeats 1000000 in
theorem r1same (A B : Option Addr) (c c2 : Nat) (L M : List Int) (W : World) (hr : Rd W A (ci .i64 L)) (hl : L.length ≤ 100000) (hs : Rd W B (ci .i64 M)) (hl2 : M.length ≤ 100000) : Calls Tryd.prog 21 #[.slice A L.length c, .slice B M.length c2] W fun e W' => e = .returned (.bool (decide (L = M))) ∧ St W (owns []) W' [] := by
  have HS : St W (owns []) W [] := St.start W _
  refine calls_enter [.slice A L.length c, .slice B M.length c2, undef, undef, undef, undef, undef, undef, undef, undef, undef, undef, undef, undef, undef, undef, undef, undef, undef, undef, undef, undef, undef, undef, undef, undef] Tryd.func21 rfl (by kernel_rfl) ?_
  refine wp_seq ?_
  refine wp_region_lit ?_
  refine ql (.bool false) (by kernel_rfl) (by kernel_rfl) ?_
  refine wpList_nil ?_
  refine x_then ?_
  refine wp_seq ?_
  refine wp_seq ?_
  refine wp_region_lit ?_
  refine ql (.slice A L.length c) (by kernel_rfl) (by kernel_rfl) ?_
  refine ql (.int .i64 (L.length : Int)) (by kernel_rfl) (by kernel_rfl) ?_
  refine ql (.slice B M.length c2) (by kernel_rfl) (by kernel_rfl) ?_
  refine ql (.int .i64 (M.length : Int)) (by kernel_rfl) (by kernel_rfl) ?_
  by_cases hc1 : (L.length : Int) = (M.length : Int)
  · skip
    refine ql (.bool false) (by kernel_rfl) (R_beq (b := ((L.length : Int) != (M.length : Int))) (by kernel_rfl) (bne_f (hc1))) ?_
    refine wpList_nil ?_
    refine x_then ?_
    refine wp_cond_false (by kernel_rfl) ?_
    refine wp_skip ?_
    refine x_then ?_
    refine wp_seq ?_
    refine wp_seq ?_
    refine wp_region_lit ?_
    refine ql (.int .i64 0) (by kernel_rfl) (by kernel_rfl) ?_
    refine wpList_nil ?_
    refine x_then ?_
    refine wp_block ?_
    refine wp_loop_ghost (fun kq a' w' => ∃ (J2 : Nat → Value) (k : Int) , a' = Fr [.slice A L.length c, .slice B M.length c2, undef, undef, (J2 4), .int .i64 k, .slice A L.length c, .int .i64 (L.length : Int), .slice B M.length c2, .int .i64 (M.length : Int), .bool false, (J2 11), (J2 12), (J2 13), (J2 14), (J2 15), (J2 16), (J2 17), (J2 18), (J2 19), (J2 20), (J2 21), (J2 22), (J2 23), (J2 24), (J2 25)] ∧ kq = (L.length - (k).toNat) ∧ (0 ≤ k) ∧ (k ≤ L.length) ∧ (eqTo L M k) ∧ St W (owns []) w' []) (L.length - ((0 : Int)).toNat) ⟨(fun k_ : Nat => List.getD [.slice A L.length c, .slice B M.length c2, undef, undef, .bool false, .int .i64 0, .slice A L.length c, .int .i64 (L.length : Int), .slice B M.length c2, .int .i64 (M.length : Int), .bool false, undef, undef, undef, undef, undef, undef, undef, undef, undef, undef, undef, undef, undef, undef, undef] k_ undef), (0 : Int), congrArg Fr (by kernel_rfl), rfl, by omega, by omega, eqTo_zero, HS⟩ ?_
    clear HS
    intro kq3 a' W4 hrel
    obtain ⟨J2, k, rfl, hk, k0, k1, he, HS⟩ := hrel
    refine wp_seq ?_
    refine wp_seq ?_
    refine wp_region_lit ?_
    refine ql (.int .i64 k) (by kernel_rfl) (by kernel_rfl) ?_
    refine ql (.slice A L.length c) (by kernel_rfl) (by kernel_rfl) ?_
    refine ql (.int .i64 (L.length : Int)) (by kernel_rfl) (by kernel_rfl) ?_
    by_cases hc5 : k < (L.length : Int)
    · skip
      refine ql (.bool true) (by kernel_rfl) (R_bool (p := k < (L.length : Int)) (by kernel_rfl) (hc5)) ?_
      refine wpList_nil ?_
      refine x_then ?_
      refine wp_cond_true (by kernel_rfl) ?_
      refine wp_skip ?_
      refine x_then ?_
      refine wp_seq ?_
      refine wp_block ?_
      refine wp_seq ?_
      refine rg_still HS 8 (by kernel_rfl) (by kernel_rfl) ?_
      intro W6 H_ HK_
      simp only [List.take_succ_cons, List.take_zero, List.drop_succ_cons, List.drop_zero]
      replace HS : St W (owns []) W6 [] := H_
      clear H_
      clear HK_
      refine qs (.slice A L.length c) (by kernel_rfl) (by kernel_rfl) ?_
      refine qs (.int .i64 k) (by kernel_rfl) (by kernel_rfl) ?_
      obtain ⟨ad7, rfl⟩ := Rd.isSome_ hr (by rw [ci_len]; omega)
      refine qs (.pointer (some (ad7.add k.toNat))) (by kernel_rfl) (R_indexA1 (k := .i64) (p := ad7) (n := L.length) (c := c) (i := k) (by kernel_rfl) (by kernel_rfl) Tryd.underlying22 (by kernel_rfl) (by omega) (by omega)) ?_
      refine qs (.int .i64 (rdI L k)) (by kernel_rfl) (R_load (p := ad7.add k.toNat) (by kernel_rfl) (by kernel_rfl) (by kernel_rfl) (HS.old0 (hr.at_ (ci_rd (i := k) (by omega) (by omega))))) ?_
      refine qs (.slice B M.length c2) (by kernel_rfl) (by kernel_rfl) ?_
      refine qs (.int .i64 k) (by kernel_rfl) (by kernel_rfl) ?_
      obtain ⟨ad8, rfl⟩ := Rd.isSome_ hs (by rw [ci_len]; omega)
      refine qs (.pointer (some (ad8.add k.toNat))) (by kernel_rfl) (R_indexA1 (k := .i64) (p := ad8) (n := M.length) (c := c2) (i := k) (by kernel_rfl) (by kernel_rfl) Tryd.underlying22 (by kernel_rfl) (by omega) (by omega)) ?_
      refine qs (.int .i64 (rdI M k)) (by kernel_rfl) (R_load (p := ad8.add k.toNat) (by kernel_rfl) (by kernel_rfl) (by kernel_rfl) (HS.old0 (hs.at_ (ci_rd (i := k) (by omega) (by omega))))) ?_
      refine wpStill_nil ?_
      by_cases hc9 : (rdI L k) = (rdI M k)
      · skip
        refine ql (.bool false) (by kernel_rfl) (R_beq (b := (rdI L k != rdI M k)) (by kernel_rfl) (bne_f (hc9))) ?_
        refine wpList_nil ?_
        refine x_then ?_
        refine wp_cond_false (by kernel_rfl) ?_
        refine wp_skip ?_
        refine x_inb ?_
        refine x_then ?_
        refine wp_region_lit ?_
        refine ql (.int .i64 k) (by kernel_rfl) (by kernel_rfl) ?_
        refine ql (.int .i64 (k + 1)) (by kernel_rfl) (R_int (by kernel_rfl) (w64 (by omega))) ?_
        refine ql (.int .i64 (k + 1)) (by kernel_rfl) (by kernel_rfl) ?_
        refine wpList_nil ?_
        refine x_then ?_
        exact ⟨L.length - (k + 1).toNat, by omega, (fun k_ : Nat => List.getD [.slice (some ad7) L.length c, .slice (some ad8) M.length c2, undef, undef, (J2 4), .int .i64 (k + 1), .slice (some ad7) L.length c, .int .i64 (L.length : Int), .slice (some ad8) M.length c2, .int .i64 (M.length : Int), .bool false, .int .i64 k, .slice (some ad7) L.length c, .int .i64 (L.length : Int), .bool true, .int .i64 k, .int .i64 (k + 1), .slice (some ad7) L.length c, .int .i64 k, .pointer (some (ad7.add k.toNat)), .int .i64 (rdI L k), .slice (some ad8) M.length c2, .int .i64 k, .pointer (some (ad8.add k.toNat)), .int .i64 (rdI M k), .bool false] k_ undef), k + 1, congrArg Fr (by kernel_rfl), rfl, by omega, by omega, eqTo_step he (by first | assumption | omega), HS⟩
      · skip
        refine ql (.bool true) (by kernel_rfl) (R_beq (b := (rdI L k != rdI M k)) (by kernel_rfl) (bne_t (hc9))) ?_
        refine wpList_nil ?_
        refine x_then ?_
        refine wp_cond_true (by kernel_rfl) ?_
        refine wp_seq ?_
        refine wp_region_lit ?_
        refine ql (.bool false) (by kernel_rfl) (by kernel_rfl) ?_
        refine wpList_nil ?_
        refine x_then ?_
        refine wp_ret ?_
        refine x_inbR ?_
        refine x_thenR ?_
        refine x_thenR ?_
        refine x_inbR ?_
        refine x_thenR ?_
        refine ret_ (.bool false) (by kernel_rfl) ?_
        exact ⟨by rw [decide_eq_false (by intro h_; subst h_; omega)], HS⟩
    · skip
      refine ql (.bool false) (by kernel_rfl) (R_nbool (p := k < (L.length : Int)) (by kernel_rfl) (hc5)) ?_
      refine wpList_nil ?_
      refine x_then ?_
      refine wp_cond_false (by kernel_rfl) ?_
      refine wp_exit ?_
      refine x_thenE ?_
      refine x_thenE ?_
      refine x_hit ?_
      refine x_then ?_
      refine wp_seq ?_
      refine wp_region_lit ?_
      refine ql (.bool true) (by kernel_rfl) (by kernel_rfl) ?_
      refine wpList_nil ?_
      refine x_then ?_
      refine wp_ret ?_
      refine ret_ (.bool true) (by kernel_rfl) ?_
      have hk9 : k = L.length := by omega
      rw [hk9] at he
      have hq := eqTo_all (by omega) he
      exact ⟨by rw [decide_eq_true hq], HS⟩
  · skip
    refine ql (.bool true) (by kernel_rfl) (R_beq (b := ((L.length : Int) != (M.length : Int))) (by kernel_rfl) (bne_t (hc1))) ?_
    refine wpList_nil ?_
    refine x_then ?_
    refine wp_cond_true (by kernel_rfl) ?_
    refine wp_seq ?_
    refine wp_region_lit ?_
    refine ql (.bool false) (by kernel_rfl) (by kernel_rfl) ?_
    refine wpList_nil ?_
    refine x_then ?_
    refine wp_ret ?_
    refine x_thenR ?_
    refine ret_ (.bool false) (by kernel_rfl) ?_
    exact ⟨by rw [decide_eq_false (by intro h_; subst h_; omega)], HS⟩

set_option maxRecDepth 100000 in
set_option maxHeartbeats 1000000 in
theorem r3add (A : Option Addr) (c : Nat) (L : List Int) (n : Int) (i : Int) (W : World) (M_ : Nat → Prop) (HS : St W M_ W [row A L.length c (ci .i64 L) 3 1]) (hl : L.length ≤ 100000) : Calls Tryd.prog 29 #[.agg #[.int .i64 n, .slice A L.length c], .int .i64 i] W fun e W' => ∃ A' c', e = .returned (.tuple #[.agg #[.int .i64 n, .slice A' (addL n L i).length c'], .bool (addB n L i)]) ∧ St W M_ W' [row A' ((addL n L i).length) c' (ci .i64 (addL n L i)) 3 1] := by
  refine calls_enter ((.agg #[.int .i64 n, .slice A L.length c]) :: (.int .i64 i) :: undef :: undef :: undef :: undef :: undef :: undef :: undef :: undef :: undef :: undef :: undef :: undef :: undef :: undef :: undef :: undef :: undef :: undef :: undef :: undef :: undef :: undef :: undef :: undef :: undef :: undef :: undef :: undef :: undef :: undef :: undef :: undef :: undef :: undef :: undef :: undef :: undef :: undef :: undef :: undef :: undef :: undef :: undef :: undef :: undef :: undef :: undef :: undef :: undef :: undef :: undef :: undef :: undef :: undef :: undef :: undef :: undef :: undef :: undef :: undef :: undef :: undef :: []) Tryd.func29 rfl (by kernel_rfl) ?_
  refine wp_seq ?_
  refine wp_region_lit ?_
  refine kb HS [.int .i64 n, .slice A L.length c] 39 (fun g => .pointer (some ⟨g, 0, none⟩)) (by kernel_rfl) (by kernel_rfl) ?_
  intro g1 W2 H_
  replace HS : St W M_ W2 [blk g1 [.int .i64 n, .slice A L.length c] 39, row A L.length c (ci .i64 L) 3 1] := H_
  clear H_
  refine kb HS [.int .i64 0, .slice none 0 0] 39 (fun g => .pointer (some ⟨g, 0, none⟩)) (by kernel_rfl) (by kernel_rfl) ?_
  intro g3 W4 H_
  replace HS : St W M_ W4 [blk g3 [.int .i64 0, .slice none 0 0] 39, blk g1 [.int .i64 n, .slice A L.length c] 39, row A L.length c (ci .i64 L) 3 1] := H_
  clear H_
  refine ql (.bool false) (by kernel_rfl) (by kernel_rfl) ?_
  refine wpList_nil ?_
  refine x_then ?_
  refine wp_seq ?_
  refine wp_seq ?_
  refine wp_region_lit ?_
  refine ql (.int .i64 i) (by kernel_rfl) (by kernel_rfl) ?_
  by_cases hc5 : i < (0 : Int)
  · skip
    refine ql (.bool true) (by kernel_rfl) (R_bool (p := i < (0 : Int)) (by kernel_rfl) (hc5)) ?_
    refine ql (.bool true) (by kernel_rfl) (by kernel_rfl) ?_
    refine qln (by kernel_rfl) ?_
    refine qln (by kernel_rfl) ?_
    refine qln (by kernel_rfl) ?_
    refine qln (by kernel_rfl) ?_
    refine ql (.bool true) (by kernel_rfl) (by kernel_rfl) ?_
    refine ql (.bool true) (by kernel_rfl) (by kernel_rfl) ?_
    refine qln (by kernel_rfl) ?_
    refine qln (by kernel_rfl) ?_
    refine qln (by kernel_rfl) ?_
    refine ql (.bool true) (by kernel_rfl) (by kernel_rfl) ?_
    refine wpList_nil ?_
    refine x_then ?_
    refine wp_cond_true (by kernel_rfl) ?_
    refine wp_seq ?_
    refine wp_region_lit ?_
    refine ql (.agg #[.int .i64 n, .slice A L.length c]) (by kernel_rfl) (R_loadN (p := ⟨g1, 0, none⟩) [.int .i64 n, .slice A L.length c] (by kernel_rfl) (by kernel_rfl) (by kernel_rfl) (by kernel_rfl) (two_at (HS.cell (i := 1) (j := 0) rfl rfl) (HS.cell (i := 1) (j := 1) rfl rfl))) ?_
    refine ks (v := .agg #[.int .i64 n, .slice A L.length c]) HS 0 rfl (0) [.int .i64 n, .slice A L.length c] (by kernel_rfl) (by kernel_rfl) (by kernel_rfl) (by kernel_rfl) (by kernel_rfl) (one_ (by kernel_rfl)) (Nat.le_of_ble_eq_true rfl) rfl ?_
    intro W6 H_
    replace HS : St W M_ W6 [blk g3 [.int .i64 n, .slice A L.length c] 39, blk g1 [.int .i64 n, .slice A L.length c] 39, row A L.length c (ci .i64 L) 3 1] := H_
    clear H_
    refine ql (.bool false) (by kernel_rfl) (by kernel_rfl) ?_
    refine wpList_nil ?_
    refine x_then ?_
    refine wp_ret ?_
    refine x_thenR ?_
    refine ret_ (.tuple #[.agg #[.int .i64 n, .slice A L.length c], .bool false]) (res2 rfl (oneRes_agg (p := ⟨g3, 0, none⟩) [.int .i64 n, .slice A L.length c] (by kernel_rfl) (by kernel_rfl) (by kernel_rfl) (by kernel_rfl) (HS.cellsN (i := 0) rfl)) (oneRes_t (by kernel_rfl))) ?_
    replace HS := HS.drop1
    replace HS := HS.drop1
    have ha := addL_out (n := n) (i := i) (L := L) (by omega)
    exact ⟨A, c, by rw [ha.1, ha.2], by rw [ha.1]; exact HS⟩
  · skip
    refine ql (.bool false) (by kernel_rfl) (R_nbool (p := i < (0 : Int)) (by kernel_rfl) (hc5)) ?_
    refine ql (.bool false) (by kernel_rfl) (by kernel_rfl) ?_
    refine ql (.int .i64 i) (by kernel_rfl) (by kernel_rfl) ?_
    refine ql (.pointer (some ⟨g1, 0, none⟩)) (by kernel_rfl) (by kernel_rfl) ?_
    refine ql (.int .i64 n) (by kernel_rfl) (R_load (p := ⟨g1, 0, none⟩) (by kernel_rfl) (by kernel_rfl) (by kernel_rfl) (HS.cell (i := 1) (j := 0) rfl rfl)) ?_
    by_cases hc7 : i ≥ n
    · skip
      refine ql (.bool true) (by kernel_rfl) (R_bool (p := i ≥ n) (by kernel_rfl) (hc7)) ?_
      refine ql (.bool true) (by kernel_rfl) (by kernel_rfl) ?_
      refine ql (.bool true) (by kernel_rfl) (by kernel_rfl) ?_
      refine qln (by kernel_rfl) ?_
      refine qln (by kernel_rfl) ?_
      refine qln (by kernel_rfl) ?_
      refine ql (.bool true) (by kernel_rfl) (by kernel_rfl) ?_
      refine wpList_nil ?_
      refine x_then ?_
      refine wp_cond_true (by kernel_rfl) ?_
      refine wp_seq ?_
      refine wp_region_lit ?_
      refine ql (.agg #[.int .i64 n, .slice A L.length c]) (by kernel_rfl) (R_loadN (p := ⟨g1, 0, none⟩) [.int .i64 n, .slice A L.length c] (by kernel_rfl) (by kernel_rfl) (by kernel_rfl) (by kernel_rfl) (two_at (HS.cell (i := 1) (j := 0) rfl rfl) (HS.cell (i := 1) (j := 1) rfl rfl))) ?_
      refine ks (v := .agg #[.int .i64 n, .slice A L.length c]) HS 0 rfl (0) [.int .i64 n, .slice A L.length c] (by kernel_rfl) (by kernel_rfl) (by kernel_rfl) (by kernel_rfl) (by kernel_rfl) (one_ (by kernel_rfl)) (Nat.le_of_ble_eq_true rfl) rfl ?_
      intro W8 H_
      replace HS : St W M_ W8 [blk g3 [.int .i64 n, .slice A L.length c] 39, blk g1 [.int .i64 n, .slice A L.length c] 39, row A L.length c (ci .i64 L) 3 1] := H_
      clear H_
      refine ql (.bool false) (by kernel_rfl) (by kernel_rfl) ?_
      refine wpList_nil ?_
      refine x_then ?_
      refine wp_ret ?_
      refine x_thenR ?_
      refine ret_ (.tuple #[.agg #[.int .i64 n, .slice A L.length c], .bool false]) (res2 rfl (oneRes_agg (p := ⟨g3, 0, none⟩) [.int .i64 n, .slice A L.length c] (by kernel_rfl) (by kernel_rfl) (by kernel_rfl) (by kernel_rfl) (HS.cellsN (i := 0) rfl)) (oneRes_t (by kernel_rfl))) ?_
      replace HS := HS.drop1
      replace HS := HS.drop1
      have ha := addL_out (n := n) (i := i) (L := L) (by omega)
      exact ⟨A, c, by rw [ha.1, ha.2], by rw [ha.1]; exact HS⟩
    · skip
      refine ql (.bool false) (by kernel_rfl) (R_nbool (p := i ≥ n) (by kernel_rfl) (hc7)) ?_
      refine ql (.bool false) (by kernel_rfl) (by kernel_rfl) ?_
      refine ql (.bool false) (by kernel_rfl) (by kernel_rfl) ?_
      refine ql (.agg #[.int .i64 n, .slice A L.length c]) (by kernel_rfl) (R_loadN (p := ⟨g1, 0, none⟩) [.int .i64 n, .slice A L.length c] (by kernel_rfl) (by kernel_rfl) (by kernel_rfl) (by kernel_rfl) (two_at (HS.cell (i := 1) (j := 0) rfl rfl) (HS.cell (i := 1) (j := 1) rfl rfl))) ?_
      refine ql (.int .i64 i) (by kernel_rfl) (by kernel_rfl) ?_
      refine qc (f := 32) (args := #[.agg #[.int .i64 n, .slice A L.length c], .int .i64 i]) (by kernel_rfl) (R_call #[.agg #[.int .i64 n, .slice A L.length c], .int .i64 i] Tryd.func32 (by kernel_rfl) (by kernel_rfl) (by kernel_rfl)) ?_
      by_cases hv : i ∈ L
      · skip
        have hdx : decide (i ∈ L) = true := decide_eq_true hv
        refine (r3has A c L n i _ (Rd.row HS (i := 2) rfl) hl).mono ?_
        rintro e W9 ⟨rfl, H_⟩
        rw [hdx]
        refine ⟨_, rfl, ?_⟩
        replace HS : St W M_ W9 [blk g3 [.int .i64 0, .slice none 0 0] 39, blk g1 [.int .i64 n, .slice A L.length c] 39, row A L.length c (ci .i64 L) 3 1] := HS.join (F := []) (G := []) H_
        clear H_
        refine ql (.bool true) (by kernel_rfl) (by kernel_rfl) ?_
        refine wpList_nil ?_
        refine x_then ?_
        refine wp_cond_true (by kernel_rfl) ?_
        refine wp_seq ?_
        refine wp_region_lit ?_
        refine ql (.agg #[.int .i64 n, .slice A L.length c]) (by kernel_rfl) (R_loadN (p := ⟨g1, 0, none⟩) [.int .i64 n, .slice A L.length c] (by kernel_rfl) (by kernel_rfl) (by kernel_rfl) (by kernel_rfl) (two_at (HS.cell (i := 1) (j := 0) rfl rfl) (HS.cell (i := 1) (j := 1) rfl rfl))) ?_
        refine ks (v := .agg #[.int .i64 n, .slice A L.length c]) HS 0 rfl (0) [.int .i64 n, .slice A L.length c] (by kernel_rfl) (by kernel_rfl) (by kernel_rfl) (by kernel_rfl) (by kernel_rfl) (one_ (by kernel_rfl)) (Nat.le_of_ble_eq_true rfl) rfl ?_
        intro W10 H_
        replace HS : St W M_ W10 [blk g3 [.int .i64 n, .slice A L.length c] 39, blk g1 [.int .i64 n, .slice A L.length c] 39, row A L.length c (ci .i64 L) 3 1] := H_
        clear H_
        refine ql (.bool false) (by kernel_rfl) (by kernel_rfl) ?_
        refine wpList_nil ?_
        refine x_then ?_
        refine wp_ret ?_
        refine x_thenR ?_
        refine ret_ (.tuple #[.agg #[.int .i64 n, .slice A L.length c], .bool false]) (res2 rfl (oneRes_agg (p := ⟨g3, 0, none⟩) [.int .i64 n, .slice A L.length c] (by kernel_rfl) (by kernel_rfl) (by kernel_rfl) (by kernel_rfl) (HS.cellsN (i := 0) rfl)) (oneRes_t (by kernel_rfl))) ?_
        replace HS := HS.drop1
        replace HS := HS.drop1
        have ha := addL_out (n := n) (i := i) (L := L) (.inr (.inr hv))
        exact ⟨A, c, by rw [ha.1, ha.2], by rw [ha.1]; exact HS⟩
      · skip
        have hdx : decide (i ∈ L) = false := decide_eq_false hv
        refine (r3has A c L n i _ (Rd.row HS (i := 2) rfl) hl).mono ?_
        rintro e W11 ⟨rfl, H_⟩
        rw [hdx]
        refine ⟨_, rfl, ?_⟩
        replace HS : St W M_ W11 [blk g3 [.int .i64 0, .slice none 0 0] 39, blk g1 [.int .i64 n, .slice A L.length c] 39, row A L.length c (ci .i64 L) 3 1] := HS.join (F := []) (G := []) H_
        clear H_
        refine ql (.bool false) (by kernel_rfl) (by kernel_rfl) ?_
        refine wpList_nil ?_
        refine x_then ?_
        refine wp_cond_false (by kernel_rfl) ?_
        refine wp_skip ?_
        refine x_then ?_
        refine wp_seq ?_
        refine wp_region_lit ?_
        refine kl HS 0 [] 3 1 (by kernel_rfl) (by kernel_rfl) rfl (by decide) ?_
        intro g12 W13 H_
        replace HS : St W M_ W13 [row (some ⟨g12, 0, none⟩) 0 0 (ci .i64 ([])) 3 1, blk g3 [.int .i64 0, .slice none 0 0] 39, blk g1 [.int .i64 n, .slice A L.length c] 39, row A L.length c (ci .i64 L) 3 1] := H_.cast_ (by kernel_rfl)
        clear H_
        refine ql (.slice (some ⟨g12, 0, none⟩) 0 0) (by kernel_rfl) (by kernel_rfl) ?_
        refine wpList_nil ?_
        refine x_then ?_
        refine wp_seq ?_
        refine wp_region_lit ?_
        refine ql (.bool false) (by kernel_rfl) (by kernel_rfl) ?_
        refine wpList_nil ?_
        refine x_then ?_
        refine wp_seq ?_
        refine wp_seq ?_
        refine wp_region_lit ?_
        refine ql (.int .i64 0) (by kernel_rfl) (by kernel_rfl) ?_
        refine wpList_nil ?_
        refine x_then ?_
        refine wp_block ?_
        refine wp_loop_ghost (fun kq a' w' => ∃ (J14 : Nat → Value) (k : Int) (put : Bool) (out : List Int) (A6 : Option Addr) (c6 : Nat) , a' = Fr ((.agg #[.int .i64 n, .slice A L.length c]) :: (.int .i64 i) :: (.pointer (some ⟨g1, 0, none⟩)) :: undef :: (.pointer (some ⟨g3, 0, none⟩)) :: (.bool false) :: (.slice A6 out.length c6) :: (.bool put) :: (.int .i64 k) :: (.int .i64 i) :: (.bool false) :: (.bool false) :: (.int .i64 i) :: (.pointer (some ⟨g1, 0, none⟩)) :: (.int .i64 n) :: (.bool false) :: (.bool false) :: (.bool false) :: (.agg #[.int .i64 n, .slice A L.length c]) :: (.int .i64 i) :: (.bool false) :: (.bool false) :: undef :: (.slice (some ⟨g12, 0, none⟩) 0 0) :: ((J14 24)) :: ((J14 25)) :: ((J14 26)) :: ((J14 27)) :: ((J14 28)) :: ((J14 29)) :: ((J14 30)) :: ((J14 31)) :: ((J14 32)) :: ((J14 33)) :: ((J14 34)) :: ((J14 35)) :: ((J14 36)) :: ((J14 37)) :: ((J14 38)) :: ((J14 39)) :: ((J14 40)) :: ((J14 41)) :: ((J14 42)) :: ((J14 43)) :: ((J14 44)) :: ((J14 45)) :: ((J14 46)) :: ((J14 47)) :: ((J14 48)) :: ((J14 49)) :: ((J14 50)) :: ((J14 51)) :: ((J14 52)) :: ((J14 53)) :: undef :: undef :: undef :: undef :: undef :: undef :: undef :: undef :: undef :: undef :: []) ∧ kq = (L.length - (k).toNat) ∧ (0 ≤ k) ∧ (k ≤ L.length) ∧ (InsP i L out k put) ∧ St W M_ w' [row A6 out.length c6 (ci .i64 out) 3 1, blk g3 [.int .i64 0, .slice none 0 0] 39, blk g1 [.int .i64 n, .slice A L.length c] 39, row A L.length c (ci .i64 L) 3 1]) (L.length - ((0 : Int)).toNat) ⟨(fun k_ : Nat => List.getD ((.agg #[.int .i64 n, .slice A L.length c]) :: (.int .i64 i) :: (.pointer (some ⟨g1, 0, none⟩)) :: undef :: (.pointer (some ⟨g3, 0, none⟩)) :: (.bool false) :: (.slice (some ⟨g12, 0, none⟩) 0 0) :: (.bool false) :: (.int .i64 0) :: (.int .i64 i) :: (.bool false) :: (.bool false) :: (.int .i64 i) :: (.pointer (some ⟨g1, 0, none⟩)) :: (.int .i64 n) :: (.bool false) :: (.bool false) :: (.bool false) :: (.agg #[.int .i64 n, .slice A L.length c]) :: (.int .i64 i) :: (.bool false) :: (.bool false) :: undef :: (.slice (some ⟨g12, 0, none⟩) 0 0) :: undef :: undef :: undef :: undef :: undef :: undef :: undef :: undef :: undef :: undef :: undef :: undef :: undef :: undef :: undef :: undef :: undef :: undef :: undef :: undef :: undef :: undef :: undef :: undef :: undef :: undef :: undef :: undef :: undef :: undef :: undef :: undef :: undef :: undef :: undef :: undef :: undef :: undef :: undef :: undef :: []) k_ undef), (0 : Int), false, [], some ⟨g12, 0, none⟩, 0, congrArg Fr (by kernel_rfl), rfl, by omega, by omega, insP_start i L, HS⟩ ?_
        clear HS
        intro kq15 a' W16 hrel
        obtain ⟨J14, k, put, out, A6, c6, rfl, hk, k0, k1, hP, HS⟩ := hrel
        have hol : (out.length : Int) ≤ k + 1 := by have h_ := hP.2; split at h_ <;> omega
        refine wp_seq ?_
        refine wp_seq ?_
        refine wp_region_lit ?_
        refine ql (.int .i64 k) (by kernel_rfl) (by kernel_rfl) ?_
        refine ql (.pointer (some ⟨g1, 1, none⟩)) (by kernel_rfl) (by kernel_rfl) ?_
        refine ql (.slice A L.length c) (by kernel_rfl) (R_load (p := ⟨g1, 1, none⟩) (by kernel_rfl) (by kernel_rfl) (by kernel_rfl) (HS.cell (i := 2) (j := 1) rfl rfl)) ?_
        refine ql (.int .i64 (L.length : Int)) (by kernel_rfl) (by kernel_rfl) ?_
        by_cases hc17 : k < (L.length : Int)
        · skip
          refine ql (.bool true) (by kernel_rfl) (R_bool (p := k < (L.length : Int)) (by kernel_rfl) (hc17)) ?_
          refine wpList_nil ?_
          refine x_then ?_
          refine wp_cond_true (by kernel_rfl) ?_
          refine wp_skip ?_
          refine x_then ?_
          refine wp_seq ?_
          refine wp_block ?_
          refine wp_seq ?_
          refine wp_seq ?_
          refine wp_region_lit ?_
          refine ql (.bool put) (by kernel_rfl) (by kernel_rfl) ?_
          by_cases hb18 : put = true
          · skip
            subst hb18
            refine ql (.bool false) (by kernel_rfl) (by kernel_rfl) ?_
            refine ql (.bool false) (by kernel_rfl) (by kernel_rfl) ?_
            refine qln (by kernel_rfl) ?_
            refine qln (by kernel_rfl) ?_
            refine qln (by kernel_rfl) ?_
            refine qln (by kernel_rfl) ?_
            refine qln (by kernel_rfl) ?_
            refine qln (by kernel_rfl) ?_
            refine qln (by kernel_rfl) ?_
            refine ql (.bool false) (by kernel_rfl) (by kernel_rfl) ?_
            refine wpList_nil ?_
            refine x_then ?_
            refine wp_cond_false (by kernel_rfl) ?_
            refine wp_skip ?_
            refine x_then ?_
            refine wp_region_lit ?_
            refine ql (.slice A6 out.length c6) (by kernel_rfl) (by kernel_rfl) ?_
            refine ql (.pointer (some ⟨g1, 1, none⟩)) (by kernel_rfl) (by kernel_rfl) ?_
            refine ql (.slice A L.length c) (by kernel_rfl) (R_load (p := ⟨g1, 1, none⟩) (by kernel_rfl) (by kernel_rfl) (by kernel_rfl) (HS.cell (i := 2) (j := 1) rfl rfl)) ?_
            refine ql (.int .i64 k) (by kernel_rfl) (by kernel_rfl) ?_
            obtain ⟨g19, rfl⟩ := St.rsome HS (i := 3) rfl (by omega)
            refine ql (.pointer (some ⟨g19, k.toNat, none⟩)) (by kernel_rfl) (R_index1 (k := .i64) (g := g19) (n := L.length) (c := c) (i := k) (by kernel_rfl) (by kernel_rfl) Tryd.underlying22 (by kernel_rfl) (by omega) (by omega)) ?_
            refine ql (.int .i64 (rdI L k)) (by kernel_rfl) (R_load (p := ⟨g19, k.toNat, none⟩) (by kernel_rfl) (by kernel_rfl) (by kernel_rfl) (HS.rcell (i := 3) rfl (ci_rd (i := k) (by omega) (by omega)))) ?_
            refine kl HS 1 [.int .i64 (rdI L k)] 3 1 (by kernel_rfl) (by kernel_rfl) rfl (by decide) ?_
            intro g20 W21 H_
            replace HS : St W M_ W21 [row (some ⟨g20, 0, none⟩) 1 1 (ci .i64 ([rdI L k])) 3 1, row A6 out.length c6 (ci .i64 out) 3 1, blk g3 [.int .i64 0, .slice none 0 0] 39, blk g1 [.int .i64 n, .slice (some ⟨g19, 0, none⟩) L.length c] 39, row (some ⟨g19, 0, none⟩) L.length c (ci .i64 L) 3 1] := H_.cast_ (by kernel_rfl)
            clear H_
            obtain ⟨xs25, xs25_⟩ : ∃ z_ : List Int, z_ = out ++ ([rdI L k]) := ⟨_, rfl⟩
            have xs25l : xs25.length = out.length + 1 := by rw [xs25_, List.length_append] <;> (try simp only [List.length_cons, List.length_nil]) <;> omega
            refine ka1 HS 1 rfl (Src.of_row HS (i := 0) rfl ci_one) [.int .i64 0] 8 xs25.length (ci .i64 xs25) (by omega) (by rw [xs25_, ci_app]) (by kernel_rfl) (by kernel_rfl) (by kernel_rfl) Tryd.underlying22 (by kernel_rfl) (by kernel_rfl) (by kernel_rfl) (by kernel_rfl) (by decide) (by omega) (by omega) ?_
            intro A22 c23 W24 H_
            replace HS : St W M_ W24 [row (some ⟨g20, 0, none⟩) 1 1 (ci .i64 ([rdI L k])) 3 1, row A22 xs25.length c23 (ci .i64 xs25) 3 1, blk g3 [.int .i64 0, .slice none 0 0] 39, blk g1 [.int .i64 n, .slice (some ⟨g19, 0, none⟩) L.length c] 39, row (some ⟨g19, 0, none⟩) L.length c (ci .i64 L) 3 1] := H_
            clear H_
            refine ql (.slice A22 xs25.length c23) (by kernel_rfl) (by kernel_rfl) ?_
            refine wpList_nil ?_
            refine x_inb ?_
            refine x_then ?_
            refine wp_region_lit ?_
            refine ql (.int .i64 k) (by kernel_rfl) (by kernel_rfl) ?_
            refine ql (.int .i64 (k + 1)) (by kernel_rfl) (R_int (by kernel_rfl) (w64 (by omega))) ?_
            refine ql (.int .i64 (k + 1)) (by kernel_rfl) (by kernel_rfl) ?_
            refine wpList_nil ?_
            replace HS := HS.drop1
            refine x_then ?_
            exact ⟨L.length - (k + 1).toNat, by omega, (fun k_ : Nat => List.getD ((.agg #[.int .i64 n, .slice (some ⟨g19, 0, none⟩) L.length c]) :: (.int .i64 i) :: (.pointer (some ⟨g1, 0, none⟩)) :: undef :: (.pointer (some ⟨g3, 0, none⟩)) :: (.bool false) :: (.slice A22 xs25.length c23) :: (.bool true) :: (.int .i64 (k + 1)) :: (.int .i64 i) :: (.bool false) :: (.bool false) :: (.int .i64 i) :: (.pointer (some ⟨g1, 0, none⟩)) :: (.int .i64 n) :: (.bool false) :: (.bool false) :: (.bool false) :: (.agg #[.int .i64 n, .slice (some ⟨g19, 0, none⟩) L.length c]) :: (.int .i64 i) :: (.bool false) :: (.bool false) :: undef :: (.slice (some ⟨g12, 0, none⟩) 0 0) :: (.int .i64 k) :: (.pointer (some ⟨g1, 1, none⟩)) :: (.slice (some ⟨g19, 0, none⟩) L.length c) :: (.int .i64 (L.length : Int)) :: (.bool true) :: (.int .i64 k) :: (.int .i64 (k + 1)) :: (.bool true) :: (.bool false) :: (.bool false) :: undef :: undef :: undef :: undef :: undef :: undef :: undef :: (.bool false) :: ((J14 42)) :: ((J14 43)) :: ((J14 44)) :: ((J14 45)) :: (.slice A6 out.length c6) :: (.pointer (some ⟨g1, 1, none⟩)) :: (.slice (some ⟨g19, 0, none⟩) L.length c) :: (.int .i64 k) :: (.pointer (some ⟨g19, k.toNat, none⟩)) :: (.int .i64 (rdI L k)) :: (.slice (some ⟨g20, 0, none⟩) 1 1) :: (.slice A22 xs25.length c23) :: undef :: undef :: undef :: undef :: undef :: undef :: undef :: undef :: undef :: undef :: []) k_ undef), k + 1, true, xs25, A22, c23, congrArg Fr (by kernel_rfl), rfl, by omega, by omega, (by rw [xs25_]; exact insP_put hP k0 (by omega)), HS⟩
          · skip
            replace hb18 := Bool.eq_false_iff.2 hb18
            subst hb18
            refine ql (.bool true) (by kernel_rfl) (by kernel_rfl) ?_
            refine ql (.bool true) (by kernel_rfl) (by kernel_rfl) ?_
            refine ql (.pointer (some ⟨g1, 1, none⟩)) (by kernel_rfl) (by kernel_rfl) ?_
            refine ql (.slice A L.length c) (by kernel_rfl) (R_load (p := ⟨g1, 1, none⟩) (by kernel_rfl) (by kernel_rfl) (by kernel_rfl) (HS.cell (i := 2) (j := 1) rfl rfl)) ?_
            refine ql (.int .i64 k) (by kernel_rfl) (by kernel_rfl) ?_
            obtain ⟨g26, rfl⟩ := St.rsome HS (i := 3) rfl (by omega)
            refine ql (.pointer (some ⟨g26, k.toNat, none⟩)) (by kernel_rfl) (R_index1 (k := .i64) (g := g26) (n := L.length) (c := c) (i := k) (by kernel_rfl) (by kernel_rfl) Tryd.underlying22 (by kernel_rfl) (by omega) (by omega)) ?_
            refine ql (.int .i64 (rdI L k)) (by kernel_rfl) (R_load (p := ⟨g26, k.toNat, none⟩) (by kernel_rfl) (by kernel_rfl) (by kernel_rfl) (HS.rcell (i := 3) rfl (ci_rd (i := k) (by omega) (by omega)))) ?_
            refine ql (.int .i64 i) (by kernel_rfl) (by kernel_rfl) ?_
            by_cases hc27 : (rdI L k) > i
            · skip
              refine ql (.bool true) (by kernel_rfl) (R_bool (p := (rdI L k) > i) (by kernel_rfl) (hc27)) ?_
              refine ql (.bool true) (by kernel_rfl) (by kernel_rfl) ?_
              refine wpList_nil ?_
              refine x_then ?_
              refine wp_cond_true (by kernel_rfl) ?_
              refine wp_seq ?_
              refine wp_region_lit ?_
              refine ql (.slice A6 out.length c6) (by kernel_rfl) (by kernel_rfl) ?_
              refine ql (.int .i64 i) (by kernel_rfl) (by kernel_rfl) ?_
              refine kl HS 1 [.int .i64 i] 3 1 (by kernel_rfl) (by kernel_rfl) rfl (by decide) ?_
              intro g28 W29 H_
              replace HS : St W M_ W29 [row (some ⟨g28, 0, none⟩) 1 1 (ci .i64 ([i])) 3 1, row A6 out.length c6 (ci .i64 out) 3 1, blk g3 [.int .i64 0, .slice none 0 0] 39, blk g1 [.int .i64 n, .slice (some ⟨g26, 0, none⟩) L.length c] 39, row (some ⟨g26, 0, none⟩) L.length c (ci .i64 L) 3 1] := H_.cast_ (by kernel_rfl)
              clear H_
              obtain ⟨xs33, xs33_⟩ : ∃ z_ : List Int, z_ = out ++ ([i]) := ⟨_, rfl⟩
              have xs33l : xs33.length = out.length + 1 := by rw [xs33_, List.length_append] <;> (try simp only [List.length_cons, List.length_nil]) <;> omega
              refine ka1 HS 1 rfl (Src.of_row HS (i := 0) rfl ci_one) [.int .i64 0] 8 xs33.length (ci .i64 xs33) (by omega) (by rw [xs33_, ci_app]) (by kernel_rfl) (by kernel_rfl) (by kernel_rfl) Tryd.underlying22 (by kernel_rfl) (by kernel_rfl) (by kernel_rfl) (by kernel_rfl) (by decide) (by omega) (by omega) ?_
              intro A30 c31 W32 H_
              replace HS : St W M_ W32 [row (some ⟨g28, 0, none⟩) 1 1 (ci .i64 ([i])) 3 1, row A30 xs33.length c31 (ci .i64 xs33) 3 1, blk g3 [.int .i64 0, .slice none 0 0] 39, blk g1 [.int .i64 n, .slice (some ⟨g26, 0, none⟩) L.length c] 39, row (some ⟨g26, 0, none⟩) L.length c (ci .i64 L) 3 1] := H_
              clear H_
              refine ql (.slice A30 xs33.length c31) (by kernel_rfl) (by kernel_rfl) ?_
              refine wpList_nil ?_
              refine x_then ?_
              refine wp_region_lit ?_
              refine ql (.bool true) (by kernel_rfl) (by kernel_rfl) ?_
              refine wpList_nil ?_
              refine x_then ?_
              refine wp_region_lit ?_
              refine ql (.slice A30 xs33.length c31) (by kernel_rfl) (by kernel_rfl) ?_
              refine ql (.pointer (some ⟨g1, 1, none⟩)) (by kernel_rfl) (by kernel_rfl) ?_
              refine ql (.slice (some ⟨g26, 0, none⟩) L.length c) (by kernel_rfl) (R_load (p := ⟨g1, 1, none⟩) (by kernel_rfl) (by kernel_rfl) (by kernel_rfl) (HS.cell (i := 3) (j := 1) rfl rfl)) ?_
              refine ql (.int .i64 k) (by kernel_rfl) (by kernel_rfl) ?_
              refine ql (.pointer (some ⟨g26, k.toNat, none⟩)) (by kernel_rfl) (R_index1 (k := .i64) (g := g26) (n := L.length) (c := c) (i := k) (by kernel_rfl) (by kernel_rfl) Tryd.underlying22 (by kernel_rfl) (by omega) (by omega)) ?_
              refine ql (.int .i64 (rdI L k)) (by kernel_rfl) (R_load (p := ⟨g26, k.toNat, none⟩) (by kernel_rfl) (by kernel_rfl) (by kernel_rfl) (HS.rcell (i := 4) rfl (ci_rd (i := k) (by omega) (by omega)))) ?_
              refine kl HS 1 [.int .i64 (rdI L k)] 3 1 (by kernel_rfl) (by kernel_rfl) rfl (by decide) ?_
              intro g34 W35 H_
              replace HS : St W M_ W35 [row (some ⟨g34, 0, none⟩) 1 1 (ci .i64 ([rdI L k])) 3 1, row (some ⟨g28, 0, none⟩) 1 1 (ci .i64 ([i])) 3 1, row A30 xs33.length c31 (ci .i64 xs33) 3 1, blk g3 [.int .i64 0, .slice none 0 0] 39, blk g1 [.int .i64 n, .slice (some ⟨g26, 0, none⟩) L.length c] 39, row (some ⟨g26, 0, none⟩) L.length c (ci .i64 L) 3 1] := H_.cast_ (by kernel_rfl)
              clear H_
              obtain ⟨xs39, xs39_⟩ : ∃ z_ : List Int, z_ = xs33 ++ ([rdI L k]) := ⟨_, rfl⟩
              have xs39l : xs39.length = xs33.length + 1 := by rw [xs39_, List.length_append] <;> (try simp only [List.length_cons, List.length_nil]) <;> omega
              refine ka1 HS 2 rfl (Src.of_row HS (i := 0) rfl ci_one) [.int .i64 0] 8 xs39.length (ci .i64 xs39) (by omega) (by rw [xs39_, ci_app]) (by kernel_rfl) (by kernel_rfl) (by kernel_rfl) Tryd.underlying22 (by kernel_rfl) (by kernel_rfl) (by kernel_rfl) (by kernel_rfl) (by decide) (by omega) (by omega) ?_
              intro A36 c37 W38 H_
              replace HS : St W M_ W38 [row (some ⟨g34, 0, none⟩) 1 1 (ci .i64 ([rdI L k])) 3 1, row (some ⟨g28, 0, none⟩) 1 1 (ci .i64 ([i])) 3 1, row A36 xs39.length c37 (ci .i64 xs39) 3 1, blk g3 [.int .i64 0, .slice none 0 0] 39, blk g1 [.int .i64 n, .slice (some ⟨g26, 0, none⟩) L.length c] 39, row (some ⟨g26, 0, none⟩) L.length c (ci .i64 L) 3 1] := H_
              clear H_
              refine ql (.slice A36 xs39.length c37) (by kernel_rfl) (by kernel_rfl) ?_
              refine wpList_nil ?_
              refine x_inb ?_
              refine x_then ?_
              refine wp_region_lit ?_
              refine ql (.int .i64 k) (by kernel_rfl) (by kernel_rfl) ?_
              refine ql (.int .i64 (k + 1)) (by kernel_rfl) (R_int (by kernel_rfl) (w64 (by omega))) ?_
              refine ql (.int .i64 (k + 1)) (by kernel_rfl) (by kernel_rfl) ?_
              refine wpList_nil ?_
              replace HS := HS.drop1
              replace HS := HS.drop1
              refine x_then ?_
              exact ⟨L.length - (k + 1).toNat, by omega, (fun k_ : Nat => List.getD ((.agg #[.int .i64 n, .slice (some ⟨g26, 0, none⟩) L.length c]) :: (.int .i64 i) :: (.pointer (some ⟨g1, 0, none⟩)) :: undef :: (.pointer (some ⟨g3, 0, none⟩)) :: (.bool false) :: (.slice A36 xs39.length c37) :: (.bool true) :: (.int .i64 (k + 1)) :: (.int .i64 i) :: (.bool false) :: (.bool false) :: (.int .i64 i) :: (.pointer (some ⟨g1, 0, none⟩)) :: (.int .i64 n) :: (.bool false) :: (.bool false) :: (.bool false) :: (.agg #[.int .i64 n, .slice (some ⟨g26, 0, none⟩) L.length c]) :: (.int .i64 i) :: (.bool false) :: (.bool false) :: undef :: (.slice (some ⟨g12, 0, none⟩) 0 0) :: (.int .i64 k) :: (.pointer (some ⟨g1, 1, none⟩)) :: (.slice (some ⟨g26, 0, none⟩) L.length c) :: (.int .i64 (L.length : Int)) :: (.bool true) :: (.int .i64 k) :: (.int .i64 (k + 1)) :: (.bool false) :: (.bool true) :: (.bool true) :: (.pointer (some ⟨g1, 1, none⟩)) :: (.slice (some ⟨g26, 0, none⟩) L.length c) :: (.int .i64 k) :: (.pointer (some ⟨g26, k.toNat, none⟩)) :: (.int .i64 (rdI L k)) :: (.int .i64 i) :: (.bool true) :: (.bool true) :: (.slice A6 out.length c6) :: (.int .i64 i) :: (.slice (some ⟨g28, 0, none⟩) 1 1) :: (.slice A30 xs33.length c31) :: (.slice A30 xs33.length c31) :: (.pointer (some ⟨g1, 1, none⟩)) :: (.slice (some ⟨g26, 0, none⟩) L.length c) :: (.int .i64 k) :: (.pointer (some ⟨g26, k.toNat, none⟩)) :: (.int .i64 (rdI L k)) :: (.slice (some ⟨g34, 0, none⟩) 1 1) :: (.slice A36 xs39.length c37) :: undef :: undef :: undef :: undef :: undef :: undef :: undef :: undef :: undef :: undef :: []) k_ undef), k + 1, true, xs39, A36, c37, congrArg Fr (by kernel_rfl), rfl, by omega, by omega, (by rw [xs39_, xs33_]; exact insP_gt hP k0 (by omega) hc27), HS⟩
            · skip
              refine ql (.bool false) (by kernel_rfl) (R_nbool (p := (rdI L k) > i) (by kernel_rfl) (hc27)) ?_
              refine ql (.bool false) (by kernel_rfl) (by kernel_rfl) ?_
              refine wpList_nil ?_
              refine x_then ?_
              refine wp_cond_false (by kernel_rfl) ?_
              refine wp_skip ?_
              refine x_then ?_
              refine wp_region_lit ?_
              refine ql (.slice A6 out.length c6) (by kernel_rfl) (by kernel_rfl) ?_
              refine ql (.pointer (some ⟨g1, 1, none⟩)) (by kernel_rfl) (by kernel_rfl) ?_
              refine ql (.slice (some ⟨g26, 0, none⟩) L.length c) (by kernel_rfl) (R_load (p := ⟨g1, 1, none⟩) (by kernel_rfl) (by kernel_rfl) (by kernel_rfl) (HS.cell (i := 2) (j := 1) rfl rfl)) ?_
              refine ql (.int .i64 k) (by kernel_rfl) (by kernel_rfl) ?_
              refine ql (.pointer (some ⟨g26, k.toNat, none⟩)) (by kernel_rfl) (R_index1 (k := .i64) (g := g26) (n := L.length) (c := c) (i := k) (by kernel_rfl) (by kernel_rfl) Tryd.underlying22 (by kernel_rfl) (by omega) (by omega)) ?_
              refine ql (.int .i64 (rdI L k)) (by kernel_rfl) (R_load (p := ⟨g26, k.toNat, none⟩) (by kernel_rfl) (by kernel_rfl) (by kernel_rfl) (HS.rcell (i := 3) rfl (ci_rd (i := k) (by omega) (by omega)))) ?_
              refine kl HS 1 [.int .i64 (rdI L k)] 3 1 (by kernel_rfl) (by kernel_rfl) rfl (by decide) ?_
              intro g40 W41 H_
              replace HS : St W M_ W41 [row (some ⟨g40, 0, none⟩) 1 1 (ci .i64 ([rdI L k])) 3 1, row A6 out.length c6 (ci .i64 out) 3 1, blk g3 [.int .i64 0, .slice none 0 0] 39, blk g1 [.int .i64 n, .slice (some ⟨g26, 0, none⟩) L.length c] 39, row (some ⟨g26, 0, none⟩) L.length c (ci .i64 L) 3 1] := H_.cast_ (by kernel_rfl)
              clear H_
              obtain ⟨xs45, xs45_⟩ : ∃ z_ : List Int, z_ = out ++ ([rdI L k]) := ⟨_, rfl⟩
              have xs45l : xs45.length = out.length + 1 := by rw [xs45_, List.length_append] <;> (try simp only [List.length_cons, List.length_nil]) <;> omega
              refine ka1 HS 1 rfl (Src.of_row HS (i := 0) rfl ci_one) [.int .i64 0] 8 xs45.length (ci .i64 xs45) (by omega) (by rw [xs45_, ci_app]) (by kernel_rfl) (by kernel_rfl) (by kernel_rfl) Tryd.underlying22 (by kernel_rfl) (by kernel_rfl) (by kernel_rfl) (by kernel_rfl) (by decide) (by omega) (by omega) ?_
              intro A42 c43 W44 H_
              replace HS : St W M_ W44 [row (some ⟨g40, 0, none⟩) 1 1 (ci .i64 ([rdI L k])) 3 1, row A42 xs45.length c43 (ci .i64 xs45) 3 1, blk g3 [.int .i64 0, .slice none 0 0] 39, blk g1 [.int .i64 n, .slice (some ⟨g26, 0, none⟩) L.length c] 39, row (some ⟨g26, 0, none⟩) L.length c (ci .i64 L) 3 1] := H_
              clear H_
              refine ql (.slice A42 xs45.length c43) (by kernel_rfl) (by kernel_rfl) ?_
              refine wpList_nil ?_
              refine x_inb ?_
              refine x_then ?_
              refine wp_region_lit ?_
              refine ql (.int .i64 k) (by kernel_rfl) (by kernel_rfl) ?_
              refine ql (.int .i64 (k + 1)) (by kernel_rfl) (R_int (by kernel_rfl) (w64 (by omega))) ?_
              refine ql (.int .i64 (k + 1)) (by kernel_rfl) (by kernel_rfl) ?_
              refine wpList_nil ?_
              replace HS := HS.drop1
              refine x_then ?_
              exact ⟨L.length - (k + 1).toNat, by omega, (fun k_ : Nat => List.getD ((.agg #[.int .i64 n, .slice (some ⟨g26, 0, none⟩) L.length c]) :: (.int .i64 i) :: (.pointer (some ⟨g1, 0, none⟩)) :: undef :: (.pointer (some ⟨g3, 0, none⟩)) :: (.bool false) :: (.slice A42 xs45.length c43) :: (.bool false) :: (.int .i64 (k + 1)) :: (.int .i64 i) :: (.bool false) :: (.bool false) :: (.int .i64 i) :: (.pointer (some ⟨g1, 0, none⟩)) :: (.int .i64 n) :: (.bool false) :: (.bool false) :: (.bool false) :: (.agg #[.int .i64 n, .slice (some ⟨g26, 0, none⟩) L.length c]) :: (.int .i64 i) :: (.bool false) :: (.bool false) :: undef :: (.slice (some ⟨g12, 0, none⟩) 0 0) :: (.int .i64 k) :: (.pointer (some ⟨g1, 1, none⟩)) :: (.slice (some ⟨g26, 0, none⟩) L.length c) :: (.int .i64 (L.length : Int)) :: (.bool true) :: (.int .i64 k) :: (.int .i64 (k + 1)) :: (.bool false) :: (.bool true) :: (.bool true) :: (.pointer (some ⟨g1, 1, none⟩)) :: (.slice (some ⟨g26, 0, none⟩) L.length c) :: (.int .i64 k) :: (.pointer (some ⟨g26, k.toNat, none⟩)) :: (.int .i64 (rdI L k)) :: (.int .i64 i) :: (.bool false) :: (.bool false) :: ((J14 42)) :: ((J14 43)) :: ((J14 44)) :: ((J14 45)) :: (.slice A6 out.length c6) :: (.pointer (some ⟨g1, 1, none⟩)) :: (.slice (some ⟨g26, 0, none⟩) L.length c) :: (.int .i64 k) :: (.pointer (some ⟨g26, k.toNat, none⟩)) :: (.int .i64 (rdI L k)) :: (.slice (some ⟨g40, 0, none⟩) 1 1) :: (.slice A42 xs45.length c43) :: undef :: undef :: undef :: undef :: undef :: undef :: undef :: undef :: undef :: undef :: []) k_ undef), k + 1, false, xs45, A42, c43, congrArg Fr (by kernel_rfl), rfl, by omega, by omega, (by rw [xs45_]; exact insP_le hP k0 (by omega) hc27), HS⟩
        · skip
          refine ql (.bool false) (by kernel_rfl) (R_nbool (p := k < (L.length : Int)) (by kernel_rfl) (hc17)) ?_
          refine wpList_nil ?_
          refine x_then ?_
          refine wp_cond_false (by kernel_rfl) ?_
          refine wp_exit ?_
          refine x_thenE ?_
          refine x_thenE ?_
          refine x_hit ?_
          refine x_then ?_
          refine wp_seq ?_
          refine wp_seq ?_
          refine wp_region_lit ?_
          refine ql (.bool put) (by kernel_rfl) (by kernel_rfl) ?_
          by_cases hb46 : put = true
          · skip
            subst hb46
            refine ql (.bool false) (by kernel_rfl) (by kernel_rfl) ?_
            refine wpList_nil ?_
            refine x_then ?_
            refine wp_cond_false (by kernel_rfl) ?_
            refine wp_skip ?_
            refine x_then ?_
            refine wp_seq ?_
            refine wp_region_lit ?_
            refine ql (.pointer (some ⟨g1, 0, none⟩)) (by kernel_rfl) (by kernel_rfl) ?_
            refine ql (.int .i64 n) (by kernel_rfl) (R_load (p := ⟨g1, 0, none⟩) (by kernel_rfl) (by kernel_rfl) (by kernel_rfl) (HS.cell (i := 2) (j := 0) rfl rfl)) ?_
            refine ql (.slice A6 out.length c6) (by kernel_rfl) (by kernel_rfl) ?_
            refine ql (.agg #[.int .i64 n, .slice A6 out.length c6]) (by kernel_rfl) (by kernel_rfl) ?_
            refine ks (v := .agg #[.int .i64 n, .slice A6 out.length c6]) HS 1 rfl (0) [.int .i64 n, .slice A6 out.length c6] (by kernel_rfl) (by kernel_rfl) (by kernel_rfl) (by kernel_rfl) (by kernel_rfl) (one_ (by kernel_rfl)) (Nat.le_of_ble_eq_true rfl) rfl ?_
            intro W47 H_
            replace HS : St W M_ W47 [row A6 out.length c6 (ci .i64 out) 3 1, blk g3 [.int .i64 n, .slice A6 out.length c6] 39, blk g1 [.int .i64 n, .slice A L.length c] 39, row A L.length c (ci .i64 L) 3 1] := H_
            clear H_
            refine ql (.bool true) (by kernel_rfl) (by kernel_rfl) ?_
            refine wpList_nil ?_
            refine x_then ?_
            refine wp_ret ?_
            refine ret_ (.tuple #[.agg #[.int .i64 n, .slice A6 out.length c6], .bool true]) (res2 rfl (oneRes_agg (p := ⟨g3, 0, none⟩) [.int .i64 n, .slice A6 out.length c6] (by kernel_rfl) (by kernel_rfl) (by kernel_rfl) (by kernel_rfl) (HS.cellsN (i := 1) rfl)) (oneRes_t (by kernel_rfl))) ?_
            replace HS : St W M_ W47 [row A6 out.length c6 (ci .i64 out) 3 1] := St.tail (F := [blk g3 [.int .i64 n, .slice A6 out.length c6] 39, blk g1 [.int .i64 n, .slice A L.length c] 39, row A L.length c (ci .i64 L) 3 1]) (HS.perm (perm_ [1, 2, 3, 0] (by kernel_rfl) rfl))
            have hk9 : k = L.length := by omega
            have hq : out = ins i L := insP_end hP hk9
            have ha := addL_in (n := n) (by omega) (by omega) hv
            rw [← hq] at ha
            exact ⟨_, _, by rw [ha.1, ha.2], by rw [ha.1]; exact HS⟩
          · skip
            replace hb46 := Bool.eq_false_iff.2 hb46
            subst hb46
            refine ql (.bool true) (by kernel_rfl) (by kernel_rfl) ?_
            refine wpList_nil ?_
            refine x_then ?_
            refine wp_cond_true (by kernel_rfl) ?_
            refine wp_region_lit ?_
            refine ql (.slice A6 out.length c6) (by kernel_rfl) (by kernel_rfl) ?_
            refine ql (.int .i64 i) (by kernel_rfl) (by kernel_rfl) ?_
            refine kl HS 1 [.int .i64 i] 3 1 (by kernel_rfl) (by kernel_rfl) rfl (by decide) ?_
            intro g48 W49 H_
            replace HS : St W M_ W49 [row (some ⟨g48, 0, none⟩) 1 1 (ci .i64 ([i])) 3 1, row A6 out.length c6 (ci .i64 out) 3 1, blk g3 [.int .i64 0, .slice none 0 0] 39, blk g1 [.int .i64 n, .slice A L.length c] 39, row A L.length c (ci .i64 L) 3 1] := H_.cast_ (by kernel_rfl)
            clear H_
            obtain ⟨xs53, xs53_⟩ : ∃ z_ : List Int, z_ = out ++ ([i]) := ⟨_, rfl⟩
            have xs53l : xs53.length = out.length + 1 := by rw [xs53_, List.length_append] <;> (try simp only [List.length_cons, List.length_nil]) <;> omega
            refine ka1 HS 1 rfl (Src.of_row HS (i := 0) rfl ci_one) [.int .i64 0] 8 xs53.length (ci .i64 xs53) (by omega) (by rw [xs53_, ci_app]) (by kernel_rfl) (by kernel_rfl) (by kernel_rfl) Tryd.underlying22 (by kernel_rfl) (by kernel_rfl) (by kernel_rfl) (by kernel_rfl) (by decide) (by omega) (by omega) ?_
            intro A50 c51 W52 H_
            replace HS : St W M_ W52 [row (some ⟨g48, 0, none⟩) 1 1 (ci .i64 ([i])) 3 1, row A50 xs53.length c51 (ci .i64 xs53) 3 1, blk g3 [.int .i64 0, .slice none 0 0] 39, blk g1 [.int .i64 n, .slice A L.length c] 39, row A L.length c (ci .i64 L) 3 1] := H_
            clear H_
            refine ql (.slice A50 xs53.length c51) (by kernel_rfl) (by kernel_rfl) ?_
            refine wpList_nil ?_
            refine x_then ?_
            refine wp_seq ?_
            refine wp_region_lit ?_
            refine ql (.pointer (some ⟨g1, 0, none⟩)) (by kernel_rfl) (by kernel_rfl) ?_
            refine ql (.int .i64 n) (by kernel_rfl) (R_load (p := ⟨g1, 0, none⟩) (by kernel_rfl) (by kernel_rfl) (by kernel_rfl) (HS.cell (i := 3) (j := 0) rfl rfl)) ?_
            refine ql (.slice A50 xs53.length c51) (by kernel_rfl) (by kernel_rfl) ?_
            refine ql (.agg #[.int .i64 n, .slice A50 xs53.length c51]) (by kernel_rfl) (by kernel_rfl) ?_
            refine ks (v := .agg #[.int .i64 n, .slice A50 xs53.length c51]) HS 2 rfl (0) [.int .i64 n, .slice A50 xs53.length c51] (by kernel_rfl) (by kernel_rfl) (by kernel_rfl) (by kernel_rfl) (by kernel_rfl) (one_ (by kernel_rfl)) (Nat.le_of_ble_eq_true rfl) rfl ?_
            intro W54 H_
            replace HS : St W M_ W54 [row (some ⟨g48, 0, none⟩) 1 1 (ci .i64 ([i])) 3 1, row A50 xs53.length c51 (ci .i64 xs53) 3 1, blk g3 [.int .i64 n, .slice A50 xs53.length c51] 39, blk g1 [.int .i64 n, .slice A L.length c] 39, row A L.length c (ci .i64 L) 3 1] := H_
            clear H_
            refine ql (.bool true) (by kernel_rfl) (by kernel_rfl) ?_
            refine wpList_nil ?_
            refine x_then ?_
            refine wp_ret ?_
            refine ret_ (.tuple #[.agg #[.int .i64 n, .slice A50 xs53.length c51], .bool true]) (res2 rfl (oneRes_agg (p := ⟨g3, 0, none⟩) [.int .i64 n, .slice A50 xs53.length c51] (by kernel_rfl) (by kernel_rfl) (by kernel_rfl) (by kernel_rfl) (HS.cellsN (i := 2) rfl)) (oneRes_t (by kernel_rfl))) ?_
            replace HS : St W M_ W54 [row A50 xs53.length c51 (ci .i64 xs53) 3 1] := St.tail (F := [row (some ⟨g48, 0, none⟩) 1 1 (ci .i64 ([i])) 3 1, blk g3 [.int .i64 n, .slice A50 xs53.length c51] 39, blk g1 [.int .i64 n, .slice A L.length c] 39, row A L.length c (ci .i64 L) 3 1]) (HS.perm (perm_ [0, 2, 3, 4, 1] (by kernel_rfl) rfl))
            have hk9 : k = L.length := by omega
            have hq : xs53 = ins i L := by rw [xs53_]; exact insP_end0 hP hk9
            have ha := addL_in (n := n) (by omega) (by omega) hv
            rw [← hq] at ha
            exact ⟨_, _, by rw [ha.1, ha.2], by rw [ha.1]; exact HS⟩

set_option maxRecDepth 100000 in
set_option maxHeartbeats 1000000 in
theorem r3del (A : Option Addr) (c : Nat) (L : List Int) (n : Int) (i : Int) (W : World) (M_ : Nat → Prop) (HS : St W M_ W [row A L.length c (ci .i64 L) 3 1]) (hl : L.length ≤ 100000) : Calls Tryd.prog 30 #[.agg #[.int .i64 n, .slice A L.length c], .int .i64 i] W fun e W' => ∃ A' c', e = .returned (.tuple #[.agg #[.int .i64 n, .slice A' (delL L i).length c'], .bool (delB L i)]) ∧ St W M_ W' [row A' ((delL L i).length) c' (ci .i64 (delL L i)) 3 1] := by
  refine calls_enter [.agg #[.int .i64 n, .slice A L.length c], .int .i64 i, undef, undef, undef, undef, undef, undef, undef, undef, undef, undef, undef, undef, undef, undef, undef, undef, undef, undef, undef, undef, undef, undef, undef, undef, undef, undef, undef, undef, undef, undef, undef, undef, undef, undef, undef, undef, undef, undef, undef] Tryd.func30 rfl (by kernel_rfl) ?_
  refine wp_seq ?_
  refine wp_region_lit ?_
  refine kb HS [.int .i64 n, .slice A L.length c] 39 (fun g => .pointer (some ⟨g, 0, none⟩)) (by kernel_rfl) (by kernel_rfl) ?_
  intro g1 W2 H_
  replace HS : St W M_ W2 [blk g1 [.int .i64 n, .slice A L.length c] 39, row A L.length c (ci .i64 L) 3 1] := H_
  clear H_
  refine kb HS [.int .i64 0, .slice none 0 0] 39 (fun g => .pointer (some ⟨g, 0, none⟩)) (by kernel_rfl) (by kernel_rfl) ?_
  intro g3 W4 H_
  replace HS : St W M_ W4 [blk g3 [.int .i64 0, .slice none 0 0] 39, blk g1 [.int .i64 n, .slice A L.length c] 39, row A L.length c (ci .i64 L) 3 1] := H_
  clear H_
  refine ql (.bool false) (by kernel_rfl) (by kernel_rfl) ?_
  refine wpList_nil ?_
  refine x_then ?_
  refine wp_seq ?_
  refine wp_region_lit ?_
  refine kl HS 0 [] 3 1 (by kernel_rfl) (by kernel_rfl) rfl (by decide) ?_
  intro g5 W6 H_
  replace HS : St W M_ W6 [row (some ⟨g5, 0, none⟩) 0 0 (ci .i64 ([])) 3 1, blk g3 [.int .i64 0, .slice none 0 0] 39, blk g1 [.int .i64 n, .slice A L.length c] 39, row A L.length c (ci .i64 L) 3 1] := H_.cast_ (by kernel_rfl)
  clear H_
  refine ql (.slice (some ⟨g5, 0, none⟩) 0 0) (by kernel_rfl) (by kernel_rfl) ?_
  refine wpList_nil ?_
  refine x_then ?_
  refine wp_seq ?_
  refine wp_seq ?_
  refine wp_region_lit ?_
  refine ql (.int .i64 0) (by kernel_rfl) (by kernel_rfl) ?_
  refine wpList_nil ?_
  refine x_then ?_
  refine wp_block ?_
  refine wp_loop_ghost (fun kq a' w' => ∃ (J7 : Nat → Value) (k : Int) (out : List Int) (A6 : Option Addr) (c6 : Nat) , a' = Fr [.agg #[.int .i64 n, .slice A L.length c], .int .i64 i, .pointer (some ⟨g1, 0, none⟩), undef, .pointer (some ⟨g3, 0, none⟩), .bool false, .slice A6 out.length c6, .int .i64 k, .slice (some ⟨g5, 0, none⟩) 0 0, (J7 9), (J7 10), (J7 11), (J7 12), (J7 13), (J7 14), (J7 15), (J7 16), (J7 17), (J7 18), (J7 19), (J7 20), (J7 21), (J7 22), (J7 23), (J7 24), (J7 25), (J7 26), (J7 27), (J7 28), (J7 29), (J7 30), undef, undef, undef, undef, undef, undef, undef, undef, undef, undef] ∧ kq = (L.length - (k).toNat) ∧ (0 ≤ k) ∧ (k ≤ L.length) ∧ (FilP i L out k) ∧ St W M_ w' [row A6 out.length c6 (ci .i64 out) 3 1, blk g3 [.int .i64 0, .slice none 0 0] 39, blk g1 [.int .i64 n, .slice A L.length c] 39, row A L.length c (ci .i64 L) 3 1]) (L.length - ((0 : Int)).toNat) ⟨(fun k_ : Nat => List.getD [.agg #[.int .i64 n, .slice A L.length c], .int .i64 i, .pointer (some ⟨g1, 0, none⟩), undef, .pointer (some ⟨g3, 0, none⟩), .bool false, .slice (some ⟨g5, 0, none⟩) 0 0, .int .i64 0, .slice (some ⟨g5, 0, none⟩) 0 0, undef, undef, undef, undef, undef, undef, undef, undef, undef, undef, undef, undef, undef, undef, undef, undef, undef, undef, undef, undef, undef, undef, undef, undef, undef, undef, undef, undef, undef, undef, undef, undef] k_ undef), (0 : Int), [], some ⟨g5, 0, none⟩, 0, congrArg Fr (by kernel_rfl), rfl, by omega, by omega, filP_start i L, HS⟩ ?_
  clear HS
  intro kq8 a' W9 hrel
  obtain ⟨J7, k, out, A6, c6, rfl, hk, k0, k1, hP, HS⟩ := hrel
  have hol := filP_len hP
  refine wp_seq ?_
  refine wp_seq ?_
  refine wp_region_lit ?_
  refine ql (.int .i64 k) (by kernel_rfl) (by kernel_rfl) ?_
  refine ql (.pointer (some ⟨g1, 1, none⟩)) (by kernel_rfl) (by kernel_rfl) ?_
  refine ql (.slice A L.length c) (by kernel_rfl) (R_load (p := ⟨g1, 1, none⟩) (by kernel_rfl) (by kernel_rfl) (by kernel_rfl) (HS.cell (i := 2) (j := 1) rfl rfl)) ?_
  refine ql (.int .i64 (L.length : Int)) (by kernel_rfl) (by kernel_rfl) ?_
  by_cases hc10 : k < (L.length : Int)
  · skip
    refine ql (.bool true) (by kernel_rfl) (R_bool (p := k < (L.length : Int)) (by kernel_rfl) (hc10)) ?_
    refine wpList_nil ?_
    refine x_then ?_
    refine wp_cond_true (by kernel_rfl) ?_
    refine wp_skip ?_
    refine x_then ?_
    refine wp_seq ?_
    refine wp_block ?_
    refine wp_seq ?_
    refine wp_region_lit ?_
    refine ql (.pointer (some ⟨g1, 1, none⟩)) (by kernel_rfl) (by kernel_rfl) ?_
    refine ql (.slice A L.length c) (by kernel_rfl) (R_load (p := ⟨g1, 1, none⟩) (by kernel_rfl) (by kernel_rfl) (by kernel_rfl) (HS.cell (i := 2) (j := 1) rfl rfl)) ?_
    refine ql (.int .i64 k) (by kernel_rfl) (by kernel_rfl) ?_
    obtain ⟨g11, rfl⟩ := St.rsome HS (i := 3) rfl (by omega)
    refine ql (.pointer (some ⟨g11, k.toNat, none⟩)) (by kernel_rfl) (R_index1 (k := .i64) (g := g11) (n := L.length) (c := c) (i := k) (by kernel_rfl) (by kernel_rfl) Tryd.underlying22 (by kernel_rfl) (by omega) (by omega)) ?_
    refine ql (.int .i64 (rdI L k)) (by kernel_rfl) (R_load (p := ⟨g11, k.toNat, none⟩) (by kernel_rfl) (by kernel_rfl) (by kernel_rfl) (HS.rcell (i := 3) rfl (ci_rd (i := k) (by omega) (by omega)))) ?_
    refine ql (.int .i64 i) (by kernel_rfl) (by kernel_rfl) ?_
    by_cases hc12 : (rdI L k) = i
    · skip
      refine ql (.bool false) (by kernel_rfl) (R_beq (b := (rdI L k != i)) (by kernel_rfl) (bne_f (hc12))) ?_
      refine wpList_nil ?_
      refine x_then ?_
      refine wp_cond_false (by kernel_rfl) ?_
      refine wp_skip ?_
      refine x_inb ?_
      refine x_then ?_
      refine wp_region_lit ?_
      refine ql (.int .i64 k) (by kernel_rfl) (by kernel_rfl) ?_
      refine ql (.int .i64 (k + 1)) (by kernel_rfl) (R_int (by kernel_rfl) (w64 (by omega))) ?_
      refine ql (.int .i64 (k + 1)) (by kernel_rfl) (by kernel_rfl) ?_
      refine wpList_nil ?_
      refine x_then ?_
      exact ⟨L.length - (k + 1).toNat, by omega, (fun k_ : Nat => List.getD [.agg #[.int .i64 n, .slice (some ⟨g11, 0, none⟩) L.length c], .int .i64 i, .pointer (some ⟨g1, 0, none⟩), undef, .pointer (some ⟨g3, 0, none⟩), .bool false, .slice A6 out.length c6, .int .i64 (k + 1), .slice (some ⟨g5, 0, none⟩) 0 0, .int .i64 k, .pointer (some ⟨g1, 1, none⟩), .slice (some ⟨g11, 0, none⟩) L.length c, .int .i64 (L.length : Int), .bool true, .int .i64 k, .int .i64 (k + 1), .pointer (some ⟨g1, 1, none⟩), .slice (some ⟨g11, 0, none⟩) L.length c, .int .i64 k, .pointer (some ⟨g11, k.toNat, none⟩), .int .i64 (rdI L k), .int .i64 i, .bool false, (J7 23), (J7 24), (J7 25), (J7 26), (J7 27), (J7 28), (J7 29), (J7 30), undef, undef, undef, undef, undef, undef, undef, undef, undef, undef] k_ undef), k + 1, out, A6, c6, congrArg Fr (by kernel_rfl), rfl, by omega, by omega, filP_eq hP k0 (by omega) hc12, HS⟩
    · skip
      refine ql (.bool true) (by kernel_rfl) (R_beq (b := (rdI L k != i)) (by kernel_rfl) (bne_t (hc12))) ?_
      refine wpList_nil ?_
      refine x_then ?_
      refine wp_cond_true (by kernel_rfl) ?_
      refine wp_region_lit ?_
      refine ql (.slice A6 out.length c6) (by kernel_rfl) (by kernel_rfl) ?_
      refine ql (.pointer (some ⟨g1, 1, none⟩)) (by kernel_rfl) (by kernel_rfl) ?_
      refine ql (.slice (some ⟨g11, 0, none⟩) L.length c) (by kernel_rfl) (R_load (p := ⟨g1, 1, none⟩) (by kernel_rfl) (by kernel_rfl) (by kernel_rfl) (HS.cell (i := 2) (j := 1) rfl rfl)) ?_
      refine ql (.int .i64 k) (by kernel_rfl) (by kernel_rfl) ?_
      refine ql (.pointer (some ⟨g11, k.toNat, none⟩)) (by kernel_rfl) (R_index1 (k := .i64) (g := g11) (n := L.length) (c := c) (i := k) (by kernel_rfl) (by kernel_rfl) Tryd.underlying22 (by kernel_rfl) (by omega) (by omega)) ?_
      refine ql (.int .i64 (rdI L k)) (by kernel_rfl) (R_load (p := ⟨g11, k.toNat, none⟩) (by kernel_rfl) (by kernel_rfl) (by kernel_rfl) (HS.rcell (i := 3) rfl (ci_rd (i := k) (by omega) (by omega)))) ?_
      refine kl HS 1 [.int .i64 (rdI L k)] 3 1 (by kernel_rfl) (by kernel_rfl) rfl (by decide) ?_
      intro g13 W14 H_
      replace HS : St W M_ W14 [row (some ⟨g13, 0, none⟩) 1 1 (ci .i64 ([rdI L k])) 3 1, row A6 out.length c6 (ci .i64 out) 3 1, blk g3 [.int .i64 0, .slice none 0 0] 39, blk g1 [.int .i64 n, .slice (some ⟨g11, 0, none⟩) L.length c] 39, row (some ⟨g11, 0, none⟩) L.length c (ci .i64 L) 3 1] := H_.cast_ (by kernel_rfl)
      clear H_
      obtain ⟨xs18, xs18_⟩ : ∃ z_ : List Int, z_ = out ++ ([rdI L k]) := ⟨_, rfl⟩
      have xs18l : xs18.length = out.length + 1 := by rw [xs18_, List.length_append] <;> (try simp only [List.length_cons, List.length_nil]) <;> omega
      refine ka1 HS 1 rfl (Src.of_row HS (i := 0) rfl ci_one) [.int .i64 0] 8 xs18.length (ci .i64 xs18) (by omega) (by rw [xs18_, ci_app]) (by kernel_rfl) (by kernel_rfl) (by kernel_rfl) Tryd.underlying22 (by kernel_rfl) (by kernel_rfl) (by kernel_rfl) (by kernel_rfl) (by decide) (by omega) (by omega) ?_
      intro A15 c16 W17 H_
      replace HS : St W M_ W17 [row (some ⟨g13, 0, none⟩) 1 1 (ci .i64 ([rdI L k])) 3 1, row A15 xs18.length c16 (ci .i64 xs18) 3 1, blk g3 [.int .i64 0, .slice none 0 0] 39, blk g1 [.int .i64 n, .slice (some ⟨g11, 0, none⟩) L.length c] 39, row (some ⟨g11, 0, none⟩) L.length c (ci .i64 L) 3 1] := H_
      clear H_
      refine ql (.slice A15 xs18.length c16) (by kernel_rfl) (by kernel_rfl) ?_
      refine wpList_nil ?_
      refine x_inb ?_
      refine x_then ?_
      refine wp_region_lit ?_
      refine ql (.int .i64 k) (by kernel_rfl) (by kernel_rfl) ?_
      refine ql (.int .i64 (k + 1)) (by kernel_rfl) (R_int (by kernel_rfl) (w64 (by omega))) ?_
      refine ql (.int .i64 (k + 1)) (by kernel_rfl) (by kernel_rfl) ?_
      refine wpList_nil ?_
      replace HS := HS.drop1
      refine x_then ?_
      exact ⟨L.length - (k + 1).toNat, by omega, (fun k_ : Nat => List.getD [.agg #[.int .i64 n, .slice (some ⟨g11, 0, none⟩) L.length c], .int .i64 i, .pointer (some ⟨g1, 0, none⟩), undef, .pointer (some ⟨g3, 0, none⟩), .bool false, .slice A15 xs18.length c16, .int .i64 (k + 1), .slice (some ⟨g5, 0, none⟩) 0 0, .int .i64 k, .pointer (some ⟨g1, 1, none⟩), .slice (some ⟨g11, 0, none⟩) L.length c, .int .i64 (L.length : Int), .bool true, .int .i64 k, .int .i64 (k + 1), .pointer (some ⟨g1, 1, none⟩), .slice (some ⟨g11, 0, none⟩) L.length c, .int .i64 k, .pointer (some ⟨g11, k.toNat, none⟩), .int .i64 (rdI L k), .int .i64 i, .bool true, .slice A6 out.length c6, .pointer (some ⟨g1, 1, none⟩), .slice (some ⟨g11, 0, none⟩) L.length c, .int .i64 k, .pointer (some ⟨g11, k.toNat, none⟩), .int .i64 (rdI L k), .slice (some ⟨g13, 0, none⟩) 1 1, .slice A15 xs18.length c16, undef, undef, undef, undef, undef, undef, undef, undef, undef, undef] k_ undef), k + 1, xs18, A15, c16, congrArg Fr (by kernel_rfl), rfl, by omega, by omega, (by rw [xs18_]; exact filP_ne hP k0 (by omega) hc12), HS⟩
  · skip
    refine ql (.bool false) (by kernel_rfl) (R_nbool (p := k < (L.length : Int)) (by kernel_rfl) (hc10)) ?_
    refine wpList_nil ?_
    refine x_then ?_
    refine wp_cond_false (by kernel_rfl) ?_
    refine wp_exit ?_
    refine x_thenE ?_
    refine x_thenE ?_
    refine x_hit ?_
    refine x_then ?_
    refine wp_seq ?_
    refine t_start HS (fun k_ => (blk g3 [.int .i64 0, .slice none 0 0] 39).own k_) 12 (by kernel_rfl) rfl ?_
    intro W19 H_ HD_
    clear HD_
    replace HS : St W M_ W19 [row A6 out.length c6 (ci .i64 out) 3 1, blk g3 [.int .i64 0, .slice none 0 0] 39, blk g1 [.int .i64 n, .slice A L.length c] 39, row A L.length c (ci .i64 L) 3 1] := H_
    clear H_
    have HV := HS
    have HK := Kpt.refl (fun k_ => (blk g3 [.int .i64 0, .slice none 0 0] 39).own k_) W19
    refine t_q (n := 11) 0 (.pointer (some ⟨g1, 0, none⟩)) rfl (by kernel_rfl) (by kernel_rfl) (fun _ _ _ h => h) (fun w' hk => (by kernel_rfl)) HK ?_
    refine t_q (n := 10) 1 (.int .i64 n) rfl (by kernel_rfl) (by kernel_rfl) (fun _ _ _ h => h) (fun w' hk => (R_load (p := ⟨g1, 0, none⟩) (by kernel_rfl) (by kernel_rfl) (by kernel_rfl) (hk.cellN (HV.sepB (a := 2) (b := 1) (by decide) rfl rfl) (HV.cell (i := 2) (j := 0) rfl rfl)))) HK ?_
    refine t_q (n := 9) 2 (.slice A6 out.length c6) rfl (by kernel_rfl) (by kernel_rfl) (fun _ _ _ h => h) (fun w' hk => (by kernel_rfl)) HK ?_
    refine t_q (n := 8) 3 (.agg #[.int .i64 n, .slice A6 out.length c6]) rfl (by kernel_rfl) (by kernel_rfl) (fun _ _ _ h => h) (fun w' hk => (by kernel_rfl)) HK ?_
    refine t_q (n := 7) 4 (.slice A6 out.length c6) rfl (by kernel_rfl) (by kernel_rfl) (fun _ _ _ h => h) (fun w' hk => (by kernel_rfl)) HK ?_
    refine t_q (n := 6) 5 (.int .i64 (out.length : Int)) rfl (by kernel_rfl) (by kernel_rfl) (fun _ _ _ h => h) (fun w' hk => (by kernel_rfl)) HK ?_
    refine t_q (n := 5) 6 (.pointer (some ⟨g1, 1, none⟩)) rfl (by kernel_rfl) (by kernel_rfl) (fun _ _ _ h => h) (fun w' hk => (by kernel_rfl)) HK ?_
    refine t_q (n := 4) 7 (.slice A L.length c) rfl (by kernel_rfl) (by kernel_rfl) (fun _ _ _ h => h) (fun w' hk => (R_load (p := ⟨g1, 1, none⟩) (by kernel_rfl) (by kernel_rfl) (by kernel_rfl) (hk.cellN (HV.sepB (a := 2) (b := 1) (by decide) rfl rfl) (HV.cell (i := 2) (j := 1) rfl rfl)))) HK ?_
    refine t_q (n := 3) 8 (.int .i64 (L.length : Int)) rfl (by kernel_rfl) (by kernel_rfl) (fun _ _ _ h => h) (fun w' hk => (by kernel_rfl)) HK ?_
    by_cases hc20 : (out.length : Int) < (L.length : Int)
    · skip
      refine t_q (n := 2) 9 (.bool true) rfl (by kernel_rfl) (by kernel_rfl) (fun _ _ _ h => h) (fun w' hk => (R_bool (p := (out.length : Int) < (L.length : Int)) (by kernel_rfl) (hc20))) HK ?_
      obtain ⟨W21, hrun_, H_, hk_⟩ := ex_ks (P := Tryd.prog) (ty := 0) (ps := "ref.go:48") (af := #[{ on := 3, ground := Go.Ground.data }, { on := 0, ground := Go.Ground.phase }, { on := 1, ground := Go.Ground.phase }, { on := 2, ground := Go.Ground.phase }, { on := 3, ground := Go.Ground.phase }, { on := 4, ground := (Go.Ground.textOnly Go.Departure.lateStores) }, { on := 5, ground := (Go.Ground.textOnly Go.Departure.lateStoresUnsure) }, { on := 6, ground := (Go.Ground.textOnly Go.Departure.lateStores) }, { on := 7, ground := (Go.Ground.textOnly Go.Departure.lateStores) }, { on := 8, ground := (Go.Ground.textOnly Go.Departure.lateStoresUnsure) }, { on := 9, ground := (Go.Ground.textOnly Go.Departure.lateStores) }]) (gd := none) (t := 39) (x := (Go.Operand.tmp 4)) (y := (Go.Operand.tmp 34)) (v := .agg #[.int .i64 n, .slice A6 out.length c6]) HS 1 rfl (0) [.int .i64 n, .slice A6 out.length c6] (by kernel_rfl) (by kernel_rfl) (by kernel_rfl) (by kernel_rfl) (one_ (by kernel_rfl)) (Nat.le_of_ble_eq_true rfl)
      replace HK := HK.trans hk_ (fun _ h_ => .inl (blk_own h_))
      refine t_s (n := 1) 10 rfl (by kernel_rfl) (by kernel_rfl) hrun_ HK ?_
      clear hk_ hrun_
      replace HS : St W M_ W21 [row A6 out.length c6 (ci .i64 out) 3 1, blk g3 [.int .i64 n, .slice A6 out.length c6] 39, blk g1 [.int .i64 n, .slice A L.length c] 39, row A L.length c (ci .i64 L) 3 1] := H_
      clear H_
      refine t_q (n := 0) 11 (.bool true) rfl (by kernel_rfl) (by kernel_rfl) (fun _ _ _ h => h) (fun w' hk => (by kernel_rfl)) HK ?_
      refine t_done (by kernel_rfl) ?_
      clear HV HK
      refine x_then ?_
      refine wp_ret ?_
      refine ret_ (.tuple #[.agg #[.int .i64 n, .slice A6 out.length c6], .bool true]) (res2 rfl (oneRes_agg (p := ⟨g3, 0, none⟩) [.int .i64 n, .slice A6 out.length c6] (by kernel_rfl) (by kernel_rfl) (by kernel_rfl) (by kernel_rfl) (HS.cellsN (i := 1) rfl)) (oneRes_t (by kernel_rfl))) ?_
      replace HS : St W M_ W21 [row A6 out.length c6 (ci .i64 out) 3 1] := St.tail (F := [blk g3 [.int .i64 n, .slice A6 out.length c6] 39, blk g1 [.int .i64 n, .slice A L.length c] 39, row A L.length c (ci .i64 L) 3 1]) (HS.perm (perm_ [1, 2, 3, 0] (by kernel_rfl) rfl))
      have hk9 : k = L.length := by omega
      have hq := filP_end hP hk9
      subst hq
      have hd : delB L i = true := decide_eq_true (delB_lt.1 (by omega))
      exact ⟨_, _, by rw [hd], HS⟩
    · skip
      refine t_q (n := 2) 9 (.bool false) rfl (by kernel_rfl) (by kernel_rfl) (fun _ _ _ h => h) (fun w' hk => (R_nbool (p := (out.length : Int) < (L.length : Int)) (by kernel_rfl) (hc20))) HK ?_
      obtain ⟨W22, hrun_, H_, hk_⟩ := ex_ks (P := Tryd.prog) (ty := 0) (ps := "ref.go:48") (af := #[{ on := 3, ground := Go.Ground.data }, { on := 0, ground := Go.Ground.phase }, { on := 1, ground := Go.Ground.phase }, { on := 2, ground := Go.Ground.phase }, { on := 3, ground := Go.Ground.phase }, { on := 4, ground := (Go.Ground.textOnly Go.Departure.lateStores) }, { on := 5, ground := (Go.Ground.textOnly Go.Departure.lateStoresUnsure) }, { on := 6, ground := (Go.Ground.textOnly Go.Departure.lateStores) }, { on := 7, ground := (Go.Ground.textOnly Go.Departure.lateStores) }, { on := 8, ground := (Go.Ground.textOnly Go.Departure.lateStoresUnsure) }, { on := 9, ground := (Go.Ground.textOnly Go.Departure.lateStores) }]) (gd := none) (t := 39) (x := (Go.Operand.tmp 4)) (y := (Go.Operand.tmp 34)) (v := .agg #[.int .i64 n, .slice A6 out.length c6]) HS 1 rfl (0) [.int .i64 n, .slice A6 out.length c6] (by kernel_rfl) (by kernel_rfl) (by kernel_rfl) (by kernel_rfl) (one_ (by kernel_rfl)) (Nat.le_of_ble_eq_true rfl)
      replace HK := HK.trans hk_ (fun _ h_ => .inl (blk_own h_))
      refine t_s (n := 1) 10 rfl (by kernel_rfl) (by kernel_rfl) hrun_ HK ?_
      clear hk_ hrun_
      replace HS : St W M_ W22 [row A6 out.length c6 (ci .i64 out) 3 1, blk g3 [.int .i64 n, .slice A6 out.length c6] 39, blk g1 [.int .i64 n, .slice A L.length c] 39, row A L.length c (ci .i64 L) 3 1] := H_
      clear H_
      refine t_q (n := 0) 11 (.bool false) rfl (by kernel_rfl) (by kernel_rfl) (fun _ _ _ h => h) (fun w' hk => (by kernel_rfl)) HK ?_
      refine t_done (by kernel_rfl) ?_
      clear HV HK
      refine x_then ?_
      refine wp_ret ?_
      refine ret_ (.tuple #[.agg #[.int .i64 n, .slice A6 out.length c6], .bool false]) (res2 rfl (oneRes_agg (p := ⟨g3, 0, none⟩) [.int .i64 n, .slice A6 out.length c6] (by kernel_rfl) (by kernel_rfl) (by kernel_rfl) (by kernel_rfl) (HS.cellsN (i := 1) rfl)) (oneRes_t (by kernel_rfl))) ?_
      replace HS : St W M_ W22 [row A6 out.length c6 (ci .i64 out) 3 1] := St.tail (F := [blk g3 [.int .i64 n, .slice A6 out.length c6] 39, blk g1 [.int .i64 n, .slice A L.length c] 39, row A L.length c (ci .i64 L) 3 1]) (HS.perm (perm_ [1, 2, 3, 0] (by kernel_rfl) rfl))
      have hk9 : k = L.length := by omega
      have hq := filP_end hP hk9
      subst hq
      have hd : delB L i = false := decide_eq_false (fun h_ => hc20 (by have := delB_lt.2 h_; omega))
      exact ⟨_, _, by rw [hd], HS⟩

end Go.Proofs.YtphhialimmhopaaDoor
